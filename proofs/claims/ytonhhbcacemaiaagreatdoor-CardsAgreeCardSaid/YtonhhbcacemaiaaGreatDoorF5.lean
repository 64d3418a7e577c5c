/- The functions of the program as Lean functions, each shown to be what the code computes, part 5. No condition: lemmas for the claim. -/
import Derived.Test.YtonhhbcacemaiaaGreatDoorF0
import Derived.Test.YtonhhbcacemaiaaGreatDoorFSh
import Derived.Test.YtonhhbcacemaiaaGreatDoorF1
import Derived.Test.YtonhhbcacemaiaaGreatDoorF3
import Derived.Test.YtonhhbcacemaiaaGreatDoorF4
set_option linter.unusedVariables false
set_option maxRecDepth 100000
namespace Go.Am
open Go Go.Proofs
abbrev T_call_BaseOf : Type 1 := List UInt8 → {R : Type} → (List UInt8 → Option R) → Option R
structure C_call_BaseOf where
 N : Nat
 call_Parts : T_call_Parts
def call_BaseOf_ (g : C_call_BaseOf) (a1 : List UInt8) {R : Type} (k0 : List UInt8 → Option R) : Option R :=
 (g.call_Parts a1 (fun r2 r3 => k0 r2.f_Base))
noncomputable def I_call_BaseOf [Fuel] : C_call_BaseOf := ⟨NN, @call_Parts _⟩
noncomputable def call_BaseOf [Fuel] : T_call_BaseOf := @call_BaseOf_ I_call_BaseOf
def SS_call_BaseOf (g : T_call_BaseOf) : Spec A := fun args => match args with | [.d (.str a1)] => fun k => g a1 (fun z0 => k (.d (.str z0)) [.undef]) | _ => fun _ => none
noncomputable def code_99 : Code := (Tryz.f99.body).getD .skip
noncomputable def E_call_BaseOf (g : C_call_BaseOf) : Env A := mkE [(148, SS_call_Parts g.call_Parts)] [(3, [0])] [] [] [] [] [] [] [] []
theorem sm_call_BaseOf (g : C_call_BaseOf) : Same (SS_call_BaseOf (@call_BaseOf_ g)) (abody (E_call_BaseOf g) Tryz.f99 code_99 1 [] [.asis] g.N) := by intro args; unfold SS_call_BaseOf; split; exact .inr fun R k => (by kernel_rfl); exact .inl fun R k => rfl
theorem ok_call_BaseOf [Fuel] : Ok 99 (SS_call_BaseOf (@call_BaseOf _)) := okF_of std (.cons ok_call_Parts .nil) ⟨rfl, rfl, by kernel_rfl, rfl, rfl, rfl⟩ (sm_call_BaseOf I_call_BaseOf) (cuts0 (fun _ => rfl) (by kernel_rfl)) Tryz.func99 (by kernel_rfl) (by kernel_rfl)
abbrev T_club_contactOf : Type 1 := G_Card → {R : Type} → (G_club_contact → Option R) → Option R
structure C_club_contactOf where
 N : Nat
 call_BaseOf : T_call_BaseOf
def club_contactOf_ (g : C_club_contactOf) (a1 : G_Card) {R : Type} (k0 : G_club_contact → Option R) : Option R :=
 (g.call_BaseOf a1.f_Call (fun r2 => k0 (⟨r2, a1.f_Band, a1.f_Mode⟩ : G_club_contact)))
noncomputable def I_club_contactOf [Fuel] : C_club_contactOf := ⟨NN, @call_BaseOf _⟩
noncomputable def club_contactOf [Fuel] : T_club_contactOf := @club_contactOf_ I_club_contactOf
def SS_club_contactOf (g : T_club_contactOf) : Spec A := fun args => match args with | [.agg [.d (.int .i64 a1), .d (.int .i64 a2), .d (.int .i64 a3), .d (.str a4), .d (.str a5)]] => fun k => g ⟨a1, a2, a3, a4, a5⟩ (fun z0 => k (.agg [.d (.str z0.f_base), .d (.str z0.f_band), .d (.int .i64 z0.f_mode)]) [.undef]) | _ => fun _ => none
noncomputable def code_73 : Code := (Tryz.f73.body).getD .skip
noncomputable def E_club_contactOf (g : C_club_contactOf) : Env A := mkE [(99, SS_call_BaseOf g.call_BaseOf)] [(1, [0]), (2, [1])] [] [] [] [] [] [] [] []
theorem sm_club_contactOf (g : C_club_contactOf) : Same (SS_club_contactOf (@club_contactOf_ g)) (abody (E_club_contactOf g) Tryz.f73 code_73 2 [] [.asis] g.N) := by intro args; unfold SS_club_contactOf; split; exact .inr fun R k => (by kernel_rfl); exact .inl fun R k => rfl
theorem ok_club_contactOf [Fuel] : Ok 73 (SS_club_contactOf (@club_contactOf _)) := okF_of std (.cons ok_call_BaseOf .nil) ⟨rfl, rfl, by kernel_rfl, rfl, rfl, rfl⟩ (sm_club_contactOf I_club_contactOf) (cuts0 (fun _ => rfl) (by kernel_rfl)) Tryz.func73 (by kernel_rfl) (by kernel_rfl)
abbrev T_club_confirmed : Type 1 := List G_Card → Int → {R : Type} → (List G_Card → Option R) → Option R
structure C_club_confirmed where
 N : Nat
 club_contactOf : T_club_contactOf
def club_confirmed_L4 (g : C_club_confirmed) : Nat → Int → List G_Card → Int → Int → List (G_club_contact × Bool) → List G_Card → {R : Type} → (List G_Card → Option R) → Option R
 | 0, _, _, _, _, _, _, _, _ => none
 | n + 1, v3, v4, v5, v6, v7, v8, _, e0 => (bif (decide (v6 < v5)) then (get_ v4 v6 fun x11 => (g.club_contactOf x11 (fun r12 => (bif (decide (x11.f_At ≤ v3)) then (bif (x11.f_Kind == 2) then (bif (!((mget_club_contact_bool r12 v7).getD false)) then (bif (decide ((v8.length + [x11].length) * 56 ≤ roomBytes')) then club_confirmed_L4 g n v3 v4 v5 (w64 (v6 + 1)) (mset_club_contact_bool r12 true v7) (v8 ++ [x11]) e0 else none) else club_confirmed_L4 g n v3 v4 v5 (w64 (v6 + 1)) v7 v8 e0) else club_confirmed_L4 g n v3 v4 v5 (w64 (v6 + 1)) v7 v8 e0) else club_confirmed_L4 g n v3 v4 v5 (w64 (v6 + 1)) v7 v8 e0)))) else e0 v8)
def club_confirmed_ (g : C_club_confirmed) (a1 : List G_Card) (a2 : Int) {R : Type} (k0 : List G_Card → Option R) : Option R :=
 (club_confirmed_L4 g g.N a2 a1 (a1.length : Int) 0 [] [] (fun e13 => k0 e13))
noncomputable def I_club_confirmed [Fuel] : C_club_confirmed := ⟨NN, @club_contactOf _⟩
noncomputable def club_confirmed [Fuel] : T_club_confirmed := @club_confirmed_ I_club_confirmed
def SS_club_confirmed (g : T_club_confirmed) : Spec A := fun args => match args with | [.d (.sl 46 a1), .d (.int .i64 a2)] => fun k => g a1 a2 (fun z0 => k (.arr 46 z0) [.undef, .undef]) | _ => fun _ => none
def sh_club_confirmed_L4 : SSt := mkSh 42 6 [(1, .int .i64), (5, .mp 0), (6, .own 46 1), (11, .sl 46), (12, .int .i64), (13, .int .i64)] [(0, .mp 132 4), (1, .row 46)]
def LP_club_confirmed_L4 (g : C_club_confirmed) (n : Nat) : LPT A := fun ps => match ps with | [.d (.int .i64 p1), .d (.sl 46 p2), .d (.int .i64 p3), .d (.int .i64 p4), .mp 132 4 p5, .d (.sl 46 p6)] => fun K => club_confirmed_L4 g n p1 p2 p3 p4 p5 p6 (fun z0 => K (.exit 0) (mkSt 42 6 [(6, .own 46 1)] [(1, some (.row 46 z0))])) | _ => fun _ => none
noncomputable def code_72 : Code := (Tryz.f72.body).getD .skip
noncomputable def E_club_confirmed (g : C_club_confirmed) : Env A := mkE [(73, SS_club_contactOf g.club_contactOf)] [(8, [2]), (9, [3]), (10, [0]), (38, [4]), (39, [5])] [(4, ⟨[1, 5, 6, 11, 12, 13], [(6, 46, 1)], [0], []⟩)] [(4, ⟨[6], [], [1], []⟩)] [(4, pieceOf sh_club_confirmed_L4 (LP_club_confirmed_L4 g g.N))] [] [] [] [] []
theorem ct_club_confirmed [Fuel] : NatTab (E_club_confirmed I_club_confirmed).C := ct_of (P := Tryz.prog) (T := T) (.cons ok_club_contactOf .nil) (by kernel_rfl)
noncomputable def cb_club_confirmed_L4 : Code := sub [1, 1, 1, 0, 1, 0, 0] code_72
theorem s_club_confirmed_L4 (g : C_club_confirmed) (n : Nat) : StepOk (E_club_confirmed g) g.N cb_club_confirmed_L4 sh_club_confirmed_L4 (LP_club_confirmed_L4 g) n := by intro ps; unfold LP_club_confirmed_L4; split; exact .inr fun R K => (by kernel_rfl); exact .inl fun R K => rfl
theorem lf_club_confirmed_L4 [Fuel] : LoopFine (E_club_confirmed I_club_confirmed) NN cb_club_confirmed_L4 := fine_loop sh_club_confirmed_L4 (LP_club_confirmed_L4 I_club_confirmed) (by kernel_rfl) ct_club_confirmed (cuts0 (fun _ => rfl) (by kernel_rfl)) (fun ps R K => by unfold LP_club_confirmed_L4; split <;> (try unfold club_confirmed_L4) <;> rfl) (s_club_confirmed_L4 I_club_confirmed)
theorem sm_club_confirmed (g : C_club_confirmed) : Same (SS_club_confirmed (@club_confirmed_ g)) (abody (E_club_confirmed g) Tryz.f72 code_72 6 [] [.arr 46] g.N) := by intro args; unfold SS_club_confirmed; split; exact .inr fun R k => (by kernel_rfl); exact .inl fun R k => rfl
theorem ok_club_confirmed [Fuel] : Ok 72 (SS_club_confirmed (@club_confirmed _)) := okF_of std (.cons ok_club_contactOf .nil) ⟨rfl, rfl, by kernel_rfl, rfl, rfl, rfl⟩ (sm_club_confirmed I_club_confirmed) (cutsL (fun _ => rfl) (.cons lf_club_confirmed_L4 .nil) (by kernel_rfl)) Tryz.func72 (by kernel_rfl) (by kernel_rfl)
abbrev T_club_Confirmed : Type 1 := List G_Card → Int → {R : Type} → (List G_Card → Int → Option R) → Option R
structure C_club_Confirmed where
 N : Nat
 club_cardsFault : T_club_cardsFault
 club_confirmed : T_club_confirmed
def club_Confirmed_ (g : C_club_Confirmed) (a1 : List G_Card) (a2 : Int) {R : Type} (k0 : List G_Card → Int → Option R) : Option R :=
 (g.club_cardsFault a1 a2 (fun r3 => (bif (r3 != 0) then k0 [] r3 else (g.club_confirmed a1 a2 (fun r4 => k0 r4 0)))))
noncomputable def I_club_Confirmed [Fuel] : C_club_Confirmed := ⟨NN, @club_cardsFault _, @club_confirmed _⟩
noncomputable def club_Confirmed [Fuel] : T_club_Confirmed := @club_Confirmed_ I_club_Confirmed
def SS_club_Confirmed (g : T_club_Confirmed) : Spec A := fun args => match args with | [.d (.sl 46 a1), .d (.int .i64 a2)] => fun k => g a1 a2 (fun z0 z1 => k (.tup [.arr 46 z0, .d (.int .i64 z1)]) [.undef, .undef]) | _ => fun _ => none
noncomputable def code_16 : Code := (Tryz.f16.body).getD .skip
noncomputable def E_club_Confirmed (g : C_club_Confirmed) : Env A := mkE [(71, SS_club_cardsFault g.club_cardsFault), (72, SS_club_confirmed g.club_confirmed)] [(15, [0])] [] [] [] [] [] [] [] []
theorem sm_club_Confirmed (g : C_club_Confirmed) : Same (SS_club_Confirmed (@club_Confirmed_ g)) (abody (E_club_Confirmed g) Tryz.f16 code_16 1 [] [.arr 46, .asis] g.N) := by intro args; unfold SS_club_Confirmed; split; exact .inr fun R k => (by kernel_rfl); exact .inl fun R k => rfl
theorem ok_club_Confirmed [Fuel] : Ok 16 (SS_club_Confirmed (@club_Confirmed _)) := okF_of std (.cons ok_club_cardsFault (.cons ok_club_confirmed .nil)) ⟨rfl, rfl, by kernel_rfl, rfl, rfl, rfl⟩ (sm_club_Confirmed I_club_Confirmed) (cuts0 (fun _ => rfl) (by kernel_rfl)) Tryz.func16 (by kernel_rfl) (by kernel_rfl)
abbrev T_kit_ModeWords : Type 1 := {R : Type} → (List (List UInt8) → Option R) → Option R
def kit_ModeWords_ (g : Nat)  {R : Type} (k0 : List (List UInt8) → Option R) : Option R :=
 k0 [[], [99, 111, 100, 101], [118, 111, 105, 99, 101], [100, 97, 116, 97]]
noncomputable def kit_ModeWords [Fuel] : T_kit_ModeWords := @kit_ModeWords_ NN
def SS_kit_ModeWords (g : T_kit_ModeWords) : Spec A := fun args => match args with | [] => fun k => g (fun z0 => k (.arr 9 z0) []) | _ => fun _ => none
noncomputable def code_74 : Code := (Tryz.f74.body).getD .skip
noncomputable def E_kit_ModeWords (g : Nat) : Env A := mkE [] [(1, [0])] [] [] [] [] [] [] [] []
theorem sm_kit_ModeWords (g : Nat) : Same (SS_kit_ModeWords (@kit_ModeWords_ g)) (abody (E_kit_ModeWords g) Tryz.f74 code_74 1 [] [.arr 9] g) := by intro args; unfold SS_kit_ModeWords; split; exact .inr fun R k => (by kernel_rfl); exact .inl fun R k => rfl
theorem ok_kit_ModeWords [Fuel] : Ok 74 (SS_kit_ModeWords (@kit_ModeWords _)) := okF_of std .nil ⟨rfl, rfl, by kernel_rfl, rfl, rfl, rfl⟩ (sm_kit_ModeWords NN) (cuts0 (fun _ => rfl) (by kernel_rfl)) Tryz.func74 (by kernel_rfl) (by kernel_rfl)
abbrev T_club_Owed_1 : Type 1 := G_Pair → G_Pair → {R : Type} → (Int → Option R) → Option R
structure C_club_Owed_1 where
 N : Nat
 strings_Compare : T_strings_Compare
 cmp_Or__int : T_cmp_Or__int
def club_Owed_1_ (g : C_club_Owed_1) (a1 a2 : G_Pair) {R : Type} (k0 : Int → Option R) : Option R :=
 (g.strings_Compare a1.f_Name a2.f_Name (fun r3 => (g.strings_Compare a1.f_Value a2.f_Value (fun r4 => (g.cmp_Or__int [r3, r4] (fun r5 => k0 r5))))))
noncomputable def I_club_Owed_1 [Fuel] : C_club_Owed_1 := ⟨NN, @strings_Compare _, @cmp_Or__int _⟩
noncomputable def club_Owed_1 [Fuel] : T_club_Owed_1 := @club_Owed_1_ I_club_Owed_1
def SS_club_Owed_1 (g : T_club_Owed_1) : Spec A := fun args => match args with | [.agg [.d (.str a1), .d (.str a2)], .agg [.d (.str a3), .d (.str a4)]] => fun k => g ⟨a1, a2⟩ ⟨a3, a4⟩ (fun z0 => k (.d (.int .i64 z0)) [.undef, .undef]) | _ => fun _ => none
noncomputable def code_76 : Code := (Tryz.f76.body).getD .skip
noncomputable def E_club_Owed_1 (g : C_club_Owed_1) : Env A := mkE [(56, SS_strings_Compare g.strings_Compare), (77, SS_cmp_Or__int g.cmp_Or__int)] [(2, [0]), (3, [1]), (15, [2])] [] [] [] [] [] [] [] []
theorem sm_club_Owed_1 (g : C_club_Owed_1) : Same (SS_club_Owed_1 (@club_Owed_1_ g)) (abody (E_club_Owed_1 g) Tryz.f76 code_76 3 [] [.asis] g.N) := by intro args; unfold SS_club_Owed_1; split; exact .inr fun R k => (by kernel_rfl); exact .inl fun R k => rfl
theorem ok_club_Owed_1 [Fuel] : Ok 76 (SS_club_Owed_1 (@club_Owed_1 _)) := okF_of std (.cons ok_strings_Compare (.cons ok_cmp_Or__int .nil)) ⟨rfl, rfl, by kernel_rfl, rfl, rfl, rfl⟩ (sm_club_Owed_1 I_club_Owed_1) (cuts0 (fun _ => rfl) (by kernel_rfl)) Tryz.func76 (by kernel_rfl) (by kernel_rfl)
noncomputable def Ed_club_Owed_1 (g : C_club_Owed_1) : Env A := mkED [(56, SS_strings_Compare g.strings_Compare), (77, SS_cmp_Or__int g.cmp_Or__int)] [(2, [0]), (3, [1]), (15, [2])] [] [] [] [] [] [] [] []
theorem smd_club_Owed_1 (g : C_club_Owed_1) : Same (SS_club_Owed_1 (@club_Owed_1_ g)) (abody (Ed_club_Owed_1 g) Tryz.f76 code_76 3 [] [.asis] g.N) := by intro args; unfold SS_club_Owed_1; split; exact .inr fun R k => (by kernel_rfl); exact .inl fun R k => rfl
theorem okd_club_Owed_1 [Fuel] : OkD 76 (SS_club_Owed_1 (@club_Owed_1 _)) := okF_of stdD (.cons okd_strings_Compare (.cons okd_cmp_Or__int .nil)) ⟨rfl, rfl, by kernel_rfl, rfl, rfl, rfl⟩ (smd_club_Owed_1 I_club_Owed_1) (cuts0 (fun _ => rfl) (by kernel_rfl)) Tryz.func76 (by kernel_rfl) (by kernel_rfl)
abbrev T_slices_SortFunc__Pair_club_Owed_1 : Type 1 := List G_Pair → {R : Type} → (List G_Pair → Option R) → Option R
noncomputable def slices_SortFunc__Pair_club_Owed_1 [Fuel] : T_slices_SortFunc__Pair_club_Owed_1 := @X_sortf G_Pair (@club_Owed_1 _)
def SS_slices_SortFunc__Pair_club_Owed_1 (g : T_slices_SortFunc__Pair_club_Owed_1) : Spec A := fun args => match args with | [.arr 56 a1, .fn 76 []] => fun k => g a1 (fun z => k (.tup []) [.arr 56 z, .fn 76 []]) | _ => fun _ => none
theorem h1_slices_SortFunc__Pair_club_Owed_1 [Fuel] (xs : List (A 56)) (R : Type) (k : IV A → List (IV A) → Option R) : SS_slices_SortFunc__Pair_club_Owed_1 (@slices_SortFunc__Pair_club_Owed_1 _) [.arr 56 xs, .fn 76 []] k = X_sortf (α := A 56) (@club_Owed_1 _) xs (fun z => k (.tup []) [.arr 56 z, .fn 76 []]) := by kernel_rfl
theorem h2_slices_SortFunc__Pair_club_Owed_1 [Fuel] (args : List (IV A)) (R : Type) (k : IV A → List (IV A) → Option R) (h : ∀ xs : List (A 56), args ≠ [.arr 56 xs, .fn 76 []]) : SS_slices_SortFunc__Pair_club_Owed_1 (@slices_SortFunc__Pair_club_Owed_1 _) args k = none := by unfold SS_slices_SortFunc__Pair_club_Owed_1; split; exact absurd rfl (h _); rfl
theorem hc_slices_SortFunc__Pair_club_Owed_1 [Fuel] (x y : A 56) (R : Type) (k : Int → Option R) : callOf T (SS_club_Owed_1 (@club_Owed_1 _)) 56 x y k = @club_Owed_1 _ x y R k := by kernel_rfl
theorem hs_slices_SortFunc__Pair_club_Owed_1 (x : G_Pair) : (enc_e56 x).all scal = true := rfl
theorem ok_slices_SortFunc__Pair_club_Owed_1 [Fuel] : Ok 75 (SS_slices_SortFunc__Pair_club_Owed_1 (@slices_SortFunc__Pair_club_Owed_1 _)) := ⟨sortf_sound (tyOk Tryz.prog) (e := 56) Tryz.sortf75 Tryz.isAgg56 Tryz.sizeOf56 (fun x d hd => List.all_eq_true.1 (hs_slices_SortFunc__Pair_club_Owed_1 x) d hd) hc_slices_SortFunc__Pair_club_Owed_1 okd_club_Owed_1.fs okd_club_Owed_1.en h1_slices_SortFunc__Pair_club_Owed_1 h2_slices_SortFunc__Pair_club_Owed_1, sortf_na (e := 56) h1_slices_SortFunc__Pair_club_Owed_1 h2_slices_SortFunc__Pair_club_Owed_1, enters_of (fn := Tryz.f75) Tryz.func75 (by kernel_rfl) (by kernel_rfl)⟩
abbrev T_club_Owed : Type 1 := List G_Card → Int → {R : Type} → (List G_Pair → Int → Option R) → Option R
structure C_club_Owed where
 N : Nat
 club_cardsFault : T_club_cardsFault
 club_confirmed : T_club_confirmed
 club_contactOf : T_club_contactOf
 kit_ModeWords : T_kit_ModeWords
 slices_SortFunc__Pair_club_Owed_1 : T_slices_SortFunc__Pair_club_Owed_1
def club_Owed_L6 (g : C_club_Owed) : Nat → List G_Card → Int → List G_Card → Int → Int → List (G_club_contact × Bool) → {R : Type} → (List G_Card → Int → List (G_club_contact × Bool) → Option R) → Option R
 | 0, _, _, _, _, _, _, _, _ => none
 | n + 1, v4, v5, v6, v7, v8, v9, _, e0 => (bif (decide (v8 < v7)) then (get_ v6 v8 fun x13 => (bif (decide (x13.f_At > v5)) then club_Owed_L6 g n v4 v5 v6 v7 (w64 (v8 + 1)) v9 e0 else (bif (x13.f_Kind == 1) then (g.club_contactOf x13 (fun r14 => club_Owed_L6 g n v4 v5 v6 v7 (w64 (v8 + 1)) (mset_club_contact_bool r14 true v9) e0)) else (bif (x13.f_Kind == 3) then (g.club_contactOf x13 (fun r15 => club_Owed_L6 g n v4 v5 v6 v7 (w64 (v8 + 1)) (mset_club_contact_bool r15 false v9) e0)) else club_Owed_L6 g n v4 v5 v6 v7 (w64 (v8 + 1)) v9 e0)))) else e0 v4 v5 v9)
def club_Owed_L16 (g : C_club_Owed) : Nat → Int → Int → List (G_club_contact × Bool) → List G_Card → List G_Pair → {R : Type} → (List G_Pair → Option R) → Option R
 | 0, _, _, _, _, _, _, _ => none
 | n + 1, v20, v21, v22, v23, v24, _, e0 => (bif (decide (v21 < v20)) then (inr v23 v21 (at_ v23 v21 fun x29 => (g.club_contactOf x29 (fun r30 => (bif (!((mget_club_contact_bool r30 v22).getD false)) then (bif (strOk r30.f_band [32]) then (g.kit_ModeWords (fun r31 => (inr r31 r30.f_mode (at_ r31 r30.f_mode fun x32 => (bif (strOk (r30.f_band ++ [32]) x32) then (bif (decide ((v24.length + [(⟨r30.f_base, ((r30.f_band ++ [32]) ++ x32)⟩ : G_Pair)].length) * 32 ≤ roomBytes')) then club_Owed_L16 g n v20 (w64 (v21 + 1)) v22 v23 (v24 ++ [(⟨r30.f_base, ((r30.f_band ++ [32]) ++ x32)⟩ : G_Pair)]) e0 else none) else none))))) else none) else club_Owed_L16 g n v20 (w64 (v21 + 1)) v22 v23 v24 e0))))) else e0 v24)
def club_Owed_ (g : C_club_Owed) (a1 : List G_Card) (a2 : Int) {R : Type} (k0 : List G_Pair → Int → Option R) : Option R :=
 (g.club_cardsFault a1 a2 (fun r3 => (bif (r3 != 0) then k0 [] r3 else (club_Owed_L6 g g.N a1 a2 a1 (a1.length : Int) 0 [] (fun e16 e17 e18 => (g.club_confirmed e16 e17 (fun r19 => (club_Owed_L16 g g.N (r19.length : Int) 0 e18 r19 [] (fun e33 => (g.slices_SortFunc__Pair_club_Owed_1 e33 (fun r34 => k0 r34 0)))))))))))
noncomputable def I_club_Owed [Fuel] : C_club_Owed := ⟨NN, @club_cardsFault _, @club_confirmed _, @club_contactOf _, @kit_ModeWords _, @slices_SortFunc__Pair_club_Owed_1 _⟩
noncomputable def club_Owed [Fuel] : T_club_Owed := @club_Owed_ I_club_Owed
def SS_club_Owed (g : T_club_Owed) : Spec A := fun args => match args with | [.d (.sl 46 a1), .d (.int .i64 a2)] => fun k => g a1 a2 (fun z0 z1 => k (.tup [.arr 56 z0, .d (.int .i64 z1)]) [.undef, .undef]) | _ => fun _ => none
def sh_club_Owed_L6 : SSt := mkSh 80 9 [(0, .sl 46), (1, .int .i64), (7, .mp 0), (21, .sl 46), (22, .int .i64), (23, .int .i64)] [(0, .mp 132 4)]
def LP_club_Owed_L6 (g : C_club_Owed) (n : Nat) : LPT A := fun ps => match ps with | [.d (.sl 46 p1), .d (.int .i64 p2), .d (.sl 46 p3), .d (.int .i64 p4), .d (.int .i64 p5), .mp 132 4 p6] => fun K => club_Owed_L6 g n p1 p2 p3 p4 p5 p6 (fun z0 z1 z2 => K (.exit 0) (mkSt 80 9 [(0, .d (.sl 46 z0)), (1, .d (.int .i64 z1)), (7, .mp 0)] [(0, some (.mp 132 4 z2))])) | _ => fun _ => none
def sh_club_Owed_L16 : SSt := mkSh 80 9 [(7, .mp 0), (10, .own 56 3), (49, .own 46 2), (50, .int .i64), (51, .int .i64)] [(0, .mp 132 4), (2, .row 46), (3, .row 56)]
def LP_club_Owed_L16 (g : C_club_Owed) (n : Nat) : LPT A := fun ps => match ps with | [.d (.int .i64 p1), .d (.int .i64 p2), .mp 132 4 p3, .d (.sl 46 p4), .d (.sl 56 p5)] => fun K => club_Owed_L16 g n p1 p2 p3 p4 p5 (fun z0 => K (.exit 3) (mkSt 80 9 [(10, .own 56 3)] [(3, some (.row 56 z0))])) | _ => fun _ => none
noncomputable def code_17 : Code := (Tryz.f17.body).getD .skip
noncomputable def E_club_Owed (g : C_club_Owed) : Env A := mkE [(71, SS_club_cardsFault g.club_cardsFault), (72, SS_club_confirmed g.club_confirmed), (73, SS_club_contactOf g.club_contactOf), (74, SS_kit_ModeWords g.kit_ModeWords), (75, SS_slices_SortFunc__Pair_club_Owed_1 g.slices_SortFunc__Pair_club_Owed_1)] [(9, [1]), (12, [4]), (13, [5]), (20, [0]), (49, [2]), (67, [6]), (74, [7]), (75, [8])] [(6, ⟨[0, 1, 7, 21, 22, 23], [], [0], []⟩), (16, ⟨[7, 10, 49, 50, 51], [(10, 56, 3)], [0, 2], []⟩)] [(6, ⟨[0, 1, 7], [], [0], []⟩), (16, ⟨[10], [], [3], []⟩)] [(6, pieceOf sh_club_Owed_L6 (LP_club_Owed_L6 g g.N)), (16, pieceOf sh_club_Owed_L16 (LP_club_Owed_L16 g g.N))] [] [] [] [(75, 0)] []
theorem ct_club_Owed [Fuel] : NatTab (E_club_Owed I_club_Owed).C := ct_of (P := Tryz.prog) (T := T) (.cons ok_club_cardsFault (.cons ok_club_confirmed (.cons ok_club_contactOf (.cons ok_kit_ModeWords (.cons ok_slices_SortFunc__Pair_club_Owed_1 .nil))))) (by kernel_rfl)
noncomputable def cb_club_Owed_L6 : Code := sub [1, 1, 1, 0, 1, 0, 0] code_17
theorem s_club_Owed_L6 (g : C_club_Owed) (n : Nat) : StepOk (E_club_Owed g) g.N cb_club_Owed_L6 sh_club_Owed_L6 (LP_club_Owed_L6 g) n := by intro ps; unfold LP_club_Owed_L6; split; exact .inr fun R K => (by kernel_rfl); exact .inl fun R K => rfl
theorem lf_club_Owed_L6 [Fuel] : LoopFine (E_club_Owed I_club_Owed) NN cb_club_Owed_L6 := fine_loop sh_club_Owed_L6 (LP_club_Owed_L6 I_club_Owed) (by kernel_rfl) ct_club_Owed (cuts0 (fun _ => rfl) (by kernel_rfl)) (fun ps R K => by unfold LP_club_Owed_L6; split <;> (try unfold club_Owed_L6) <;> rfl) (s_club_Owed_L6 I_club_Owed)
noncomputable def cb_club_Owed_L16 : Code := sub [1, 1, 1, 1, 1, 0, 1, 0, 0] code_17
theorem s_club_Owed_L16 (g : C_club_Owed) (n : Nat) : StepOk (E_club_Owed g) g.N cb_club_Owed_L16 sh_club_Owed_L16 (LP_club_Owed_L16 g) n := by intro ps; unfold LP_club_Owed_L16; split; exact .inr fun R K => (by kernel_rfl); exact .inl fun R K => rfl
theorem lf_club_Owed_L16 [Fuel] : LoopFine (E_club_Owed I_club_Owed) NN cb_club_Owed_L16 := fine_loop sh_club_Owed_L16 (LP_club_Owed_L16 I_club_Owed) (by kernel_rfl) ct_club_Owed (cuts0 (fun _ => rfl) (by kernel_rfl)) (fun ps R K => by unfold LP_club_Owed_L16; split <;> (try unfold club_Owed_L16) <;> rfl) (s_club_Owed_L16 I_club_Owed)
theorem sm_club_Owed (g : C_club_Owed) : Same (SS_club_Owed (@club_Owed_ g)) (abody (E_club_Owed g) Tryz.f17 code_17 9 [] [.arr 56, .asis] g.N) := by intro args; unfold SS_club_Owed; split; exact .inr fun R k => (by kernel_rfl); exact .inl fun R k => rfl
theorem ok_club_Owed [Fuel] : Ok 17 (SS_club_Owed (@club_Owed _)) := okF_of std (.cons ok_club_cardsFault (.cons ok_club_confirmed (.cons ok_club_contactOf (.cons ok_kit_ModeWords (.cons ok_slices_SortFunc__Pair_club_Owed_1 .nil))))) ⟨rfl, rfl, by kernel_rfl, rfl, rfl, rfl⟩ (sm_club_Owed I_club_Owed) (cutsL (fun _ => rfl) (.cons lf_club_Owed_L6 (.cons lf_club_Owed_L16 .nil)) (by kernel_rfl)) Tryz.func17 (by kernel_rfl) (by kernel_rfl)
abbrev T_keep_errs : Type 1 := List Int → {R : Type} → (Int → Option R) → Option R
def keep_errs_L2 (g : Nat) : Nat → List Int → Int → Int → {R : Type} → (Int → Option R) → Option R → Option R
 | 0, _, _, _, _, _, _ => none
 | n + 1, v2, v3, v4, _, e0, e1 => (bif (decide (v4 < v3)) then (get_ v2 v4 fun x6 => (bif (x6 != 0) then e0 x6 else keep_errs_L2 g n v2 v3 (w64 (v4 + 1)) e0 e1)) else e1)
def keep_errs_ (g : Nat) (a1 : List Int) {R : Type} (k0 : Int → Option R) : Option R :=
 (keep_errs_L2 g g a1 (a1.length : Int) 0 (fun e7 => k0 e7) (k0 0))
noncomputable def keep_errs [Fuel] : T_keep_errs := @keep_errs_ NN
def SS_keep_errs (g : T_keep_errs) : Spec A := fun args => match args with | [.d (.sl 30 a1)] => fun k => g a1 (fun z0 => k (.d (.int .i64 z0)) [.undef]) | _ => fun _ => none
def sh_keep_errs_L2 : SSt := mkSh 15 0 [(5, .sl 30), (6, .int .i64), (7, .int .i64)] []
def LP_keep_errs_L2 (g : Nat) (n : Nat) : LPT A := fun ps => match ps with | [.d (.sl 30 p1), .d (.int .i64 p2), .d (.int .i64 p3)] => fun K => keep_errs_L2 g n p1 p2 p3 (fun z0 => K .ret (mkSt 15 0 [(2, .d (.int .i64 z0))] [])) (K (.exit 0) (mkSt 15 0 [] [])) | _ => fun _ => none
noncomputable def code_18 : Code := (Tryz.f18.body).getD .skip
noncomputable def E_keep_errs (g : Nat) : Env A := mkE [] [] [(2, ⟨[5, 6, 7], [], [], []⟩)] [(2, ⟨[2], [], [], []⟩)] [(2, pieceOf sh_keep_errs_L2 (LP_keep_errs_L2 g g))] [] [] [] [] []
theorem ct_keep_errs [Fuel] : NatTab (E_keep_errs NN).C := ct_of (P := Tryz.prog) (T := T) .nil (by kernel_rfl)
noncomputable def cb_keep_errs_L2 : Code := sub [1, 0, 1, 0, 0] code_18
theorem s_keep_errs_L2 (g : Nat) (n : Nat) : StepOk (E_keep_errs g) g cb_keep_errs_L2 sh_keep_errs_L2 (LP_keep_errs_L2 g) n := by intro ps; unfold LP_keep_errs_L2; split; exact .inr fun R K => (by kernel_rfl); exact .inl fun R K => rfl
theorem lf_keep_errs_L2 [Fuel] : LoopFine (E_keep_errs NN) NN cb_keep_errs_L2 := fine_loop sh_keep_errs_L2 (LP_keep_errs_L2 NN) (by kernel_rfl) ct_keep_errs (cuts0 (fun _ => rfl) (by kernel_rfl)) (fun ps R K => by unfold LP_keep_errs_L2; split <;> (try unfold keep_errs_L2) <;> rfl) (s_keep_errs_L2 NN)
theorem sm_keep_errs (g : Nat) : Same (SS_keep_errs (@keep_errs_ g)) (abody (E_keep_errs g) Tryz.f18 code_18 0 [] [.asis] g) := by intro args; unfold SS_keep_errs; split; exact .inr fun R k => (by kernel_rfl); exact .inl fun R k => rfl
theorem ok_keep_errs [Fuel] : Ok 18 (SS_keep_errs (@keep_errs _)) := okF_of std .nil ⟨rfl, rfl, by kernel_rfl, rfl, rfl, rfl⟩ (sm_keep_errs NN) (cutsL (fun _ => rfl) (.cons lf_keep_errs_L2 .nil) (by kernel_rfl)) Tryz.func18 (by kernel_rfl) (by kernel_rfl)
abbrev T_slices_Equal__Card : Type 1 := List G_Card → List G_Card → {R : Type} → (Bool → Option R) → Option R
def slices_Equal__Card_L4 (g : Nat) : Nat → List G_Card → List G_Card → Int → Int → {R : Type} → (Bool → Option R) → Option R → Option R
 | 0, _, _, _, _, _, _, _ => none
 | n + 1, v3, v4, v5, v6, _, e0, e1 => (bif (decide (v6 < v5)) then (get_ v3 v6 fun x9 => (get_ v4 v6 fun x10 => (bif (!(eq_G_Card x9 x10)) then e0 false else slices_Equal__Card_L4 g n v3 v4 v5 (w64 (v6 + 1)) e0 e1))) else e1)
def slices_Equal__Card_ (g : Nat) (a1 a2 : List G_Card) {R : Type} (k0 : Bool → Option R) : Option R :=
 (bif ((a1.length : Int) != (a2.length : Int)) then k0 false else (slices_Equal__Card_L4 g g a1 a2 (a1.length : Int) 0 (fun e11 => k0 e11) (k0 true)))
noncomputable def slices_Equal__Card [Fuel] : T_slices_Equal__Card := @slices_Equal__Card_ NN
def SS_slices_Equal__Card (g : T_slices_Equal__Card) : Spec A := fun args => match args with | [.d (.sl 46 a1), .d (.sl 46 a2)] => fun k => g a1 a2 (fun z0 => k (.d (.bool z0)) [.undef, .undef]) | _ => fun _ => none
def sh_slices_Equal__Card_L4 : SSt := mkSh 26 0 [(0, .sl 46), (1, .sl 46), (12, .int .i64), (13, .int .i64)] []
def LP_slices_Equal__Card_L4 (g : Nat) (n : Nat) : LPT A := fun ps => match ps with | [.d (.sl 46 p1), .d (.sl 46 p2), .d (.int .i64 p3), .d (.int .i64 p4)] => fun K => slices_Equal__Card_L4 g n p1 p2 p3 p4 (fun z0 => K .ret (mkSt 26 0 [(4, .d (.bool z0))] [])) (K (.exit 0) (mkSt 26 0 [] [])) | _ => fun _ => none
noncomputable def code_19 : Code := (Tryz.f19.body).getD .skip
noncomputable def E_slices_Equal__Card (g : Nat) : Env A := mkE [] [] [(4, ⟨[0, 1, 12, 13], [], [], []⟩)] [(4, ⟨[4], [], [], []⟩)] [(4, pieceOf sh_slices_Equal__Card_L4 (LP_slices_Equal__Card_L4 g g))] [] [] [] [] []
theorem ct_slices_Equal__Card [Fuel] : NatTab (E_slices_Equal__Card NN).C := ct_of (P := Tryz.prog) (T := T) .nil (by kernel_rfl)
noncomputable def cb_slices_Equal__Card_L4 : Code := sub [1, 1, 0, 1, 0, 0] code_19
theorem s_slices_Equal__Card_L4 (g : Nat) (n : Nat) : StepOk (E_slices_Equal__Card g) g cb_slices_Equal__Card_L4 sh_slices_Equal__Card_L4 (LP_slices_Equal__Card_L4 g) n := by intro ps; unfold LP_slices_Equal__Card_L4; split; exact .inr fun R K => (by kernel_rfl); exact .inl fun R K => rfl
theorem lf_slices_Equal__Card_L4 [Fuel] : LoopFine (E_slices_Equal__Card NN) NN cb_slices_Equal__Card_L4 := fine_loop sh_slices_Equal__Card_L4 (LP_slices_Equal__Card_L4 NN) (by kernel_rfl) ct_slices_Equal__Card (cuts0 (fun _ => rfl) (by kernel_rfl)) (fun ps R K => by unfold LP_slices_Equal__Card_L4; split <;> (try unfold slices_Equal__Card_L4) <;> rfl) (s_slices_Equal__Card_L4 NN)
theorem sm_slices_Equal__Card (g : Nat) : Same (SS_slices_Equal__Card (@slices_Equal__Card_ g)) (abody (E_slices_Equal__Card g) Tryz.f19 code_19 0 [] [.asis] g) := by intro args; unfold SS_slices_Equal__Card; split; exact .inr fun R k => (by kernel_rfl); exact .inl fun R k => rfl
theorem ok_slices_Equal__Card [Fuel] : Ok 19 (SS_slices_Equal__Card (@slices_Equal__Card _)) := okF_of std .nil ⟨rfl, rfl, by kernel_rfl, rfl, rfl, rfl⟩ (sm_slices_Equal__Card NN) (cutsL (fun _ => rfl) (.cons lf_slices_Equal__Card_L4 .nil) (by kernel_rfl)) Tryz.func19 (by kernel_rfl) (by kernel_rfl)
abbrev T_Q_BaseOf : Type 1 := List UInt8 → {R : Type} → (List UInt8 → Option R) → Option R
structure C_Q_BaseOf where
 N : Nat
 R_PartsOf : T_R_PartsOf
def Q_BaseOf_ (g : C_Q_BaseOf) (a1 : List UInt8) {R : Type} (k0 : List UInt8 → Option R) : Option R :=
 (g.R_PartsOf a1 (fun r2 r3 => k0 r2.f_Base))
noncomputable def I_Q_BaseOf [Fuel] : C_Q_BaseOf := ⟨NN, @R_PartsOf _⟩
noncomputable def Q_BaseOf [Fuel] : T_Q_BaseOf := @Q_BaseOf_ I_Q_BaseOf
def SS_Q_BaseOf (g : T_Q_BaseOf) : Spec A := fun args => match args with | [.d (.str a1)] => fun k => g a1 (fun z0 => k (.d (.str z0)) [.undef]) | _ => fun _ => none
noncomputable def code_22 : Code := (Tryz.f22.body).getD .skip
noncomputable def E_Q_BaseOf (g : C_Q_BaseOf) : Env A := mkE [(79, SS_R_PartsOf g.R_PartsOf)] [(3, [0])] [] [] [] [] [] [] [] []
theorem sm_Q_BaseOf (g : C_Q_BaseOf) : Same (SS_Q_BaseOf (@Q_BaseOf_ g)) (abody (E_Q_BaseOf g) Tryz.f22 code_22 1 [] [.asis] g.N) := by intro args; unfold SS_Q_BaseOf; split; exact .inr fun R k => (by kernel_rfl); exact .inl fun R k => rfl
theorem ok_Q_BaseOf [Fuel] : Ok 22 (SS_Q_BaseOf (@Q_BaseOf _)) := okF_of std (.cons ok_R_PartsOf .nil) ⟨rfl, rfl, by kernel_rfl, rfl, rfl, rfl⟩ (sm_Q_BaseOf I_Q_BaseOf) (cuts0 (fun _ => rfl) (by kernel_rfl)) Tryz.func22 (by kernel_rfl) (by kernel_rfl)
abbrev T_stringslite_HasPrefix : Type 1 := List UInt8 → List UInt8 → {R : Type} → (Bool → Option R) → Option R
def stringslite_HasPrefix_ (g : Nat) (a1 a2 : List UInt8) {R : Type} (k0 : Bool → Option R) : Option R :=
 (bif (decide ((a1.length : Int) ≥ (a2.length : Int))) then (bif (decide (0 ≤ (a2.length : Int)) && decide ((a2.length : Int) ≤ (a1.length : Int))) then k0 ((a1.take ((a2.length : Int) : Int).toNat) == a2) else none) else k0 false)
noncomputable def stringslite_HasPrefix [Fuel] : T_stringslite_HasPrefix := @stringslite_HasPrefix_ NN
def SS_stringslite_HasPrefix (g : T_stringslite_HasPrefix) : Spec A := fun args => match args with | [.d (.str a1), .d (.str a2)] => fun k => g a1 a2 (fun z0 => k (.d (.bool z0)) [.undef, .undef]) | _ => fun _ => none
noncomputable def code_80 : Code := (Tryz.f80.body).getD .skip
noncomputable def E_stringslite_HasPrefix (g : Nat) : Env A := mkE [] [] [] [] [] [] [] [] [] []
theorem sm_stringslite_HasPrefix (g : Nat) : Same (SS_stringslite_HasPrefix (@stringslite_HasPrefix_ g)) (abody (E_stringslite_HasPrefix g) Tryz.f80 code_80 0 [] [.asis] g) := by intro args; unfold SS_stringslite_HasPrefix; split; exact .inr fun R k => (by kernel_rfl); exact .inl fun R k => rfl
theorem ok_stringslite_HasPrefix [Fuel] : Ok 80 (SS_stringslite_HasPrefix (@stringslite_HasPrefix _)) := okF_of std .nil ⟨rfl, rfl, by kernel_rfl, rfl, rfl, rfl⟩ (sm_stringslite_HasPrefix NN) (cuts0 (fun _ => rfl) (by kernel_rfl)) Tryz.func80 (by kernel_rfl) (by kernel_rfl)
abbrev T_strings_HasPrefix : Type 1 := List UInt8 → List UInt8 → {R : Type} → (Bool → Option R) → Option R
structure C_strings_HasPrefix where
 N : Nat
 stringslite_HasPrefix : T_stringslite_HasPrefix
def strings_HasPrefix_ (g : C_strings_HasPrefix) (a1 a2 : List UInt8) {R : Type} (k0 : Bool → Option R) : Option R :=
 (g.stringslite_HasPrefix a1 a2 (fun r3 => k0 r3))
noncomputable def I_strings_HasPrefix [Fuel] : C_strings_HasPrefix := ⟨NN, @stringslite_HasPrefix _⟩
noncomputable def strings_HasPrefix [Fuel] : T_strings_HasPrefix := @strings_HasPrefix_ I_strings_HasPrefix
def SS_strings_HasPrefix (g : T_strings_HasPrefix) : Spec A := fun args => match args with | [.d (.str a1), .d (.str a2)] => fun k => g a1 a2 (fun z0 => k (.d (.bool z0)) [.undef, .undef]) | _ => fun _ => none
noncomputable def code_23 : Code := (Tryz.f23.body).getD .skip
noncomputable def E_strings_HasPrefix (g : C_strings_HasPrefix) : Env A := mkE [(80, SS_stringslite_HasPrefix g.stringslite_HasPrefix)] [] [] [] [] [] [] [] [] []
theorem sm_strings_HasPrefix (g : C_strings_HasPrefix) : Same (SS_strings_HasPrefix (@strings_HasPrefix_ g)) (abody (E_strings_HasPrefix g) Tryz.f23 code_23 0 [] [.asis] g.N) := by intro args; unfold SS_strings_HasPrefix; split; exact .inr fun R k => (by kernel_rfl); exact .inl fun R k => rfl
theorem ok_strings_HasPrefix [Fuel] : Ok 23 (SS_strings_HasPrefix (@strings_HasPrefix _)) := okF_of std (.cons ok_stringslite_HasPrefix .nil) ⟨rfl, rfl, by kernel_rfl, rfl, rfl, rfl⟩ (sm_strings_HasPrefix I_strings_HasPrefix) (cuts0 (fun _ => rfl) (by kernel_rfl)) Tryz.func23 (by kernel_rfl) (by kernel_rfl)
abbrev T_keep_CardsAgree_1 : Type 1 := G_Card → G_Pair → {R : Type} → (Bool → G_Pair → Option R) → Option R
structure C_keep_CardsAgree_1 where
 N : Nat
 Q_BaseOf : T_Q_BaseOf
 strings_HasPrefix : T_strings_HasPrefix
def keep_CardsAgree_1_ (g : C_keep_CardsAgree_1) (a1 : G_Card) (a2 : G_Pair) {R : Type} (k0 : Bool → G_Pair → Option R) : Option R :=
 (g.Q_BaseOf a1.f_Call (fun r3 => (bif (r3 == a2.f_Name) then (bif (strOk a1.f_Band [32]) then (g.strings_HasPrefix a2.f_Value (a1.f_Band ++ [32]) (fun r4 => k0 r4 a2)) else none) else k0 false a2)))
noncomputable def I_keep_CardsAgree_1 [Fuel] : C_keep_CardsAgree_1 := ⟨NN, @Q_BaseOf _, @strings_HasPrefix _⟩
noncomputable def keep_CardsAgree_1 [Fuel] : T_keep_CardsAgree_1 := @keep_CardsAgree_1_ I_keep_CardsAgree_1
def SS_keep_CardsAgree_1 (g : T_keep_CardsAgree_1) : Spec A := fun args => match args with | [.agg [.d (.int .i64 a1), .d (.int .i64 a2), .d (.int .i64 a3), .d (.str a4), .d (.str a5)], .box [.d (.str a6), .d (.str a7)]] => fun k => g ⟨a1, a2, a3, a4, a5⟩ ⟨a6, a7⟩ (fun z0 z1 => k (.d (.bool z0)) [.undef, .box [.d (.str z1.f_Name), .d (.str z1.f_Value)]]) | _ => fun _ => none
noncomputable def code_21 : Code := (Tryz.f21.body).getD .skip
noncomputable def E_keep_CardsAgree_1 (g : C_keep_CardsAgree_1) : Env A := mkE [(22, SS_Q_BaseOf g.Q_BaseOf), (23, SS_strings_HasPrefix g.strings_HasPrefix)] [(2, [1])] [] [] [] [] [] [] [] [1]
theorem sm_keep_CardsAgree_1 (g : C_keep_CardsAgree_1) : Same (SS_keep_CardsAgree_1 (@keep_CardsAgree_1_ g)) (abody (E_keep_CardsAgree_1 g) Tryz.f21 code_21 2 [0] [.asis] g.N) := by intro args; unfold SS_keep_CardsAgree_1; split; exact .inr fun R k => (by kernel_rfl); exact .inl fun R k => rfl
theorem ok_keep_CardsAgree_1 [Fuel] : Ok 21 (SS_keep_CardsAgree_1 (@keep_CardsAgree_1 _)) := okF_of std (.cons ok_Q_BaseOf (.cons ok_strings_HasPrefix .nil)) ⟨rfl, rfl, by kernel_rfl, rfl, rfl, rfl⟩ (sm_keep_CardsAgree_1 I_keep_CardsAgree_1) (cuts0 (fun _ => rfl) (by kernel_rfl)) Tryz.func21 (by kernel_rfl) (by kernel_rfl)
abbrev T_slices_IndexFunc__Card_keep_CardsAgree_1 : Type 1 := List G_Card → G_Pair → {R : Type} → (Int → G_Pair → Option R) → Option R
structure C_slices_IndexFunc__Card_keep_CardsAgree_1 where
 N : Nat
 keep_CardsAgree_1 : T_keep_CardsAgree_1
def slices_IndexFunc__Card_keep_CardsAgree_1_L2 (g : C_slices_IndexFunc__Card_keep_CardsAgree_1) : Nat → List G_Card → Int → Int → G_Pair → {R : Type} → (Int → G_Pair → Option R) → (G_Pair → Option R) → Option R
 | 0, _, _, _, _, _, _, _ => none
 | n + 1, v3, v4, v5, v6, _, e0, e1 => (bif (decide (v5 < v4)) then (get_ v3 v5 fun x10 => (g.keep_CardsAgree_1 x10 v6 (fun r11 r12 => (bif r11 then e0 v5 r12 else slices_IndexFunc__Card_keep_CardsAgree_1_L2 g n v3 v4 (w64 (v5 + 1)) r12 e0 e1)))) else e1 v6)
def slices_IndexFunc__Card_keep_CardsAgree_1_ (g : C_slices_IndexFunc__Card_keep_CardsAgree_1) (a1 : List G_Card) (a2 : G_Pair) {R : Type} (k0 : Int → G_Pair → Option R) : Option R :=
 (slices_IndexFunc__Card_keep_CardsAgree_1_L2 g g.N a1 (a1.length : Int) 0 a2 (fun e13 e14 => k0 e13 e14) (fun e15 => k0 (-1) e15))
noncomputable def I_slices_IndexFunc__Card_keep_CardsAgree_1 [Fuel] : C_slices_IndexFunc__Card_keep_CardsAgree_1 := ⟨NN, @keep_CardsAgree_1 _⟩
noncomputable def slices_IndexFunc__Card_keep_CardsAgree_1 [Fuel] : T_slices_IndexFunc__Card_keep_CardsAgree_1 := @slices_IndexFunc__Card_keep_CardsAgree_1_ I_slices_IndexFunc__Card_keep_CardsAgree_1
def SS_slices_IndexFunc__Card_keep_CardsAgree_1 (g : T_slices_IndexFunc__Card_keep_CardsAgree_1) : Spec A := fun args => match args with | [.d (.sl 46 a1), .fn 21 [.box [.d (.str a2), .d (.str a3)]]] => fun k => g a1 ⟨a2, a3⟩ (fun z0 z1 => k (.d (.int .i64 z0)) [.undef, .fn 21 [.box [.d (.str z1.f_Name), .d (.str z1.f_Value)]]]) | _ => fun _ => none
def sh_slices_IndexFunc__Card_keep_CardsAgree_1_L2 : SSt := mkSh 19 1 [(0, .sl 46), (1, .fn 21 [.ptr 0 0]), (7, .int .i64), (8, .int .i64)] [(0, .box [.str, .str])]
def LP_slices_IndexFunc__Card_keep_CardsAgree_1_L2 (g : C_slices_IndexFunc__Card_keep_CardsAgree_1) (n : Nat) : LPT A := fun ps => match ps with | [.d (.sl 46 p1), .d (.int .i64 p2), .d (.int .i64 p3), .d (.str p4), .d (.str p5)] => fun K => slices_IndexFunc__Card_keep_CardsAgree_1_L2 g n p1 p2 p3 ⟨p4, p5⟩ (fun z0 z1 => K .ret (mkSt 19 1 [(1, .fn 21 [.ptr 0 0]), (4, .d (.int .i64 z0))] [(0, some (.box [.d (.str z1.f_Name), .d (.str z1.f_Value)]))])) (fun z0 => K (.exit 0) (mkSt 19 1 [(1, .fn 21 [.ptr 0 0])] [(0, some (.box [.d (.str z0.f_Name), .d (.str z0.f_Value)]))])) | _ => fun _ => none
noncomputable def code_78 : Code := (Tryz.f78.body).getD .skip
noncomputable def E_slices_IndexFunc__Card_keep_CardsAgree_1 (g : C_slices_IndexFunc__Card_keep_CardsAgree_1) : Env A := mkE [(21, SS_keep_CardsAgree_1 g.keep_CardsAgree_1)] [] [(2, ⟨[0, 1, 7, 8], [], [0], []⟩)] [(2, ⟨[1, 4], [], [0], []⟩)] [(2, pieceOf sh_slices_IndexFunc__Card_keep_CardsAgree_1_L2 (LP_slices_IndexFunc__Card_keep_CardsAgree_1_L2 g g.N))] [] [] [] [] [1]
theorem ct_slices_IndexFunc__Card_keep_CardsAgree_1 [Fuel] : NatTab (E_slices_IndexFunc__Card_keep_CardsAgree_1 I_slices_IndexFunc__Card_keep_CardsAgree_1).C := ct_of (P := Tryz.prog) (T := T) (.cons ok_keep_CardsAgree_1 .nil) (by kernel_rfl)
noncomputable def cb_slices_IndexFunc__Card_keep_CardsAgree_1_L2 : Code := sub [1, 0, 1, 0, 0] code_78
theorem s_slices_IndexFunc__Card_keep_CardsAgree_1_L2 (g : C_slices_IndexFunc__Card_keep_CardsAgree_1) (n : Nat) : StepOk (E_slices_IndexFunc__Card_keep_CardsAgree_1 g) g.N cb_slices_IndexFunc__Card_keep_CardsAgree_1_L2 sh_slices_IndexFunc__Card_keep_CardsAgree_1_L2 (LP_slices_IndexFunc__Card_keep_CardsAgree_1_L2 g) n := by intro ps; unfold LP_slices_IndexFunc__Card_keep_CardsAgree_1_L2; split; exact .inr fun R K => (by kernel_rfl); exact .inl fun R K => rfl
theorem lf_slices_IndexFunc__Card_keep_CardsAgree_1_L2 [Fuel] : LoopFine (E_slices_IndexFunc__Card_keep_CardsAgree_1 I_slices_IndexFunc__Card_keep_CardsAgree_1) NN cb_slices_IndexFunc__Card_keep_CardsAgree_1_L2 := fine_loop sh_slices_IndexFunc__Card_keep_CardsAgree_1_L2 (LP_slices_IndexFunc__Card_keep_CardsAgree_1_L2 I_slices_IndexFunc__Card_keep_CardsAgree_1) (by kernel_rfl) ct_slices_IndexFunc__Card_keep_CardsAgree_1 (cuts0 (fun _ => rfl) (by kernel_rfl)) (fun ps R K => by unfold LP_slices_IndexFunc__Card_keep_CardsAgree_1_L2; split <;> (try unfold slices_IndexFunc__Card_keep_CardsAgree_1_L2) <;> rfl) (s_slices_IndexFunc__Card_keep_CardsAgree_1_L2 I_slices_IndexFunc__Card_keep_CardsAgree_1)
theorem sm_slices_IndexFunc__Card_keep_CardsAgree_1 (g : C_slices_IndexFunc__Card_keep_CardsAgree_1) : Same (SS_slices_IndexFunc__Card_keep_CardsAgree_1 (@slices_IndexFunc__Card_keep_CardsAgree_1_ g)) (abody (E_slices_IndexFunc__Card_keep_CardsAgree_1 g) Tryz.f78 code_78 1 [0] [.asis] g.N) := by intro args; unfold SS_slices_IndexFunc__Card_keep_CardsAgree_1; split; exact .inr fun R k => (by kernel_rfl); exact .inl fun R k => rfl
theorem ok_slices_IndexFunc__Card_keep_CardsAgree_1 [Fuel] : Ok 78 (SS_slices_IndexFunc__Card_keep_CardsAgree_1 (@slices_IndexFunc__Card_keep_CardsAgree_1 _)) := okF_of std (.cons ok_keep_CardsAgree_1 .nil) ⟨rfl, rfl, by kernel_rfl, rfl, rfl, rfl⟩ (sm_slices_IndexFunc__Card_keep_CardsAgree_1 I_slices_IndexFunc__Card_keep_CardsAgree_1) (cutsL (fun _ => rfl) (.cons lf_slices_IndexFunc__Card_keep_CardsAgree_1_L2 .nil) (by kernel_rfl)) Tryz.func78 (by kernel_rfl) (by kernel_rfl)
abbrev T_slices_ContainsFunc__Card_keep_CardsAgree_1 : Type 1 := List G_Card → G_Pair → {R : Type} → (Bool → G_Pair → Option R) → Option R
structure C_slices_ContainsFunc__Card_keep_CardsAgree_1 where
 N : Nat
 slices_IndexFunc__Card_keep_CardsAgree_1 : T_slices_IndexFunc__Card_keep_CardsAgree_1
def slices_ContainsFunc__Card_keep_CardsAgree_1_ (g : C_slices_ContainsFunc__Card_keep_CardsAgree_1) (a1 : List G_Card) (a2 : G_Pair) {R : Type} (k0 : Bool → G_Pair → Option R) : Option R :=
 (g.slices_IndexFunc__Card_keep_CardsAgree_1 a1 a2 (fun r3 r4 => k0 (decide (r3 ≥ 0)) r4))
noncomputable def I_slices_ContainsFunc__Card_keep_CardsAgree_1 [Fuel] : C_slices_ContainsFunc__Card_keep_CardsAgree_1 := ⟨NN, @slices_IndexFunc__Card_keep_CardsAgree_1 _⟩
noncomputable def slices_ContainsFunc__Card_keep_CardsAgree_1 [Fuel] : T_slices_ContainsFunc__Card_keep_CardsAgree_1 := @slices_ContainsFunc__Card_keep_CardsAgree_1_ I_slices_ContainsFunc__Card_keep_CardsAgree_1
def SS_slices_ContainsFunc__Card_keep_CardsAgree_1 (g : T_slices_ContainsFunc__Card_keep_CardsAgree_1) : Spec A := fun args => match args with | [.d (.sl 46 a1), .fn 21 [.box [.d (.str a2), .d (.str a3)]]] => fun k => g a1 ⟨a2, a3⟩ (fun z0 z1 => k (.d (.bool z0)) [.undef, .fn 21 [.box [.d (.str z1.f_Name), .d (.str z1.f_Value)]]]) | _ => fun _ => none
noncomputable def code_20 : Code := (Tryz.f20.body).getD .skip
noncomputable def E_slices_ContainsFunc__Card_keep_CardsAgree_1 (g : C_slices_ContainsFunc__Card_keep_CardsAgree_1) : Env A := mkE [(78, SS_slices_IndexFunc__Card_keep_CardsAgree_1 g.slices_IndexFunc__Card_keep_CardsAgree_1)] [] [] [] [] [] [] [] [(78, 0)] [1]
theorem sm_slices_ContainsFunc__Card_keep_CardsAgree_1 (g : C_slices_ContainsFunc__Card_keep_CardsAgree_1) : Same (SS_slices_ContainsFunc__Card_keep_CardsAgree_1 (@slices_ContainsFunc__Card_keep_CardsAgree_1_ g)) (abody (E_slices_ContainsFunc__Card_keep_CardsAgree_1 g) Tryz.f20 code_20 1 [0] [.asis] g.N) := by intro args; unfold SS_slices_ContainsFunc__Card_keep_CardsAgree_1; split; exact .inr fun R k => (by kernel_rfl); exact .inl fun R k => rfl
theorem ok_slices_ContainsFunc__Card_keep_CardsAgree_1 [Fuel] : Ok 20 (SS_slices_ContainsFunc__Card_keep_CardsAgree_1 (@slices_ContainsFunc__Card_keep_CardsAgree_1 _)) := okF_of std (.cons ok_slices_IndexFunc__Card_keep_CardsAgree_1 .nil) ⟨rfl, rfl, by kernel_rfl, rfl, rfl, rfl⟩ (sm_slices_ContainsFunc__Card_keep_CardsAgree_1 I_slices_ContainsFunc__Card_keep_CardsAgree_1) (cuts0 (fun _ => rfl) (by kernel_rfl)) Tryz.func20 (by kernel_rfl) (by kernel_rfl)
abbrev T_kit_IsName : Type 1 := List UInt8 → {R : Type} → (Bool → Option R) → Option R
structure C_kit_IsName where
 N : Nat
 kit_IsKey : T_kit_IsKey
def kit_IsName_ (g : C_kit_IsName) (a1 : List UInt8) {R : Type} (k0 : Bool → Option R) : Option R :=
 (bif (a1 == []) then k0 true else (g.kit_IsKey a1 (fun r2 => k0 r2)))
noncomputable def I_kit_IsName [Fuel] : C_kit_IsName := ⟨NN, @kit_IsKey _⟩
noncomputable def kit_IsName [Fuel] : T_kit_IsName := @kit_IsName_ I_kit_IsName
def SS_kit_IsName (g : T_kit_IsName) : Spec A := fun args => match args with | [.d (.str a1)] => fun k => g a1 (fun z0 => k (.d (.bool z0)) [.undef]) | _ => fun _ => none
noncomputable def code_199 : Code := (Tryz.f199.body).getD .skip
noncomputable def E_kit_IsName (g : C_kit_IsName) : Env A := mkE [(49, SS_kit_IsKey g.kit_IsKey)] [] [] [] [] [] [] [] [] []
theorem sm_kit_IsName (g : C_kit_IsName) : Same (SS_kit_IsName (@kit_IsName_ g)) (abody (E_kit_IsName g) Tryz.f199 code_199 0 [] [.asis] g.N) := by intro args; unfold SS_kit_IsName; split; exact .inr fun R k => (by kernel_rfl); exact .inl fun R k => rfl
theorem ok_kit_IsName [Fuel] : Ok 199 (SS_kit_IsName (@kit_IsName _)) := okF_of std (.cons ok_kit_IsKey .nil) ⟨rfl, rfl, by kernel_rfl, rfl, rfl, rfl⟩ (sm_kit_IsName I_kit_IsName) (cuts0 (fun _ => rfl) (by kernel_rfl)) Tryz.func199 (by kernel_rfl) (by kernel_rfl)
end Go.Am
