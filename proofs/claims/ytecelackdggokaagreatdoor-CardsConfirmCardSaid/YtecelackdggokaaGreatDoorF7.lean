/- The functions of the program as Lean functions, each shown to be what the code computes, part 7. No condition: lemmas for the claim. -/
import Derived.Test.YtecelackdggokaaGreatDoorF0
import Derived.Test.YtecelackdggokaaGreatDoorFSh
import Derived.Test.YtecelackdggokaaGreatDoorF1
import Derived.Test.YtecelackdggokaaGreatDoorF2
import Derived.Test.YtecelackdggokaaGreatDoorF3
import Derived.Test.YtecelackdggokaaGreatDoorF4
import Derived.Test.YtecelackdggokaaGreatDoorF5
import Derived.Test.YtecelackdggokaaGreatDoorF6
set_option linter.unusedVariables false
set_option maxRecDepth 100000
namespace Go.Am
open Go Go.Proofs
abbrev T_club_isLocator : Type 1 := List UInt8 → {R : Type} → (Bool → Option R) → Option R
structure C_club_isLocator where
  N : Nat
  club_isSquare : T_club_isSquare
def club_isLocator_ (g : C_club_isLocator) (a1 : List UInt8) {R : Type} (k0 : Bool → Option R) : Option R :=
  (bif ((a1.length : Int) == 6) then (g.club_isSquare a1 (fun r2 => k0 r2)) else k0 false)
noncomputable def I_club_isLocator [Fuel] : C_club_isLocator := ⟨NN, @club_isSquare _⟩
noncomputable def club_isLocator [Fuel] : T_club_isLocator := @club_isLocator_ I_club_isLocator
def SS_club_isLocator (g : T_club_isLocator) : Spec A := fun args => match args with | [.d (.str a1)] => fun k => g a1 (fun z0 => k (.d (.bool z0)) [.undef]) | _ => fun _ => none
noncomputable def code_265 : Code := (Tryz.f265.body).getD .skip
noncomputable def E_club_isLocator (g : C_club_isLocator) : Env A := mkE [(320, SS_club_isSquare g.club_isSquare)] [] [] [] [] [] [] [] [] []
theorem sm_club_isLocator (g : C_club_isLocator) : Same (SS_club_isLocator (@club_isLocator_ g)) (abody (E_club_isLocator g) Tryz.f265 code_265 0 [] [.asis] g.N) := by intro args; unfold SS_club_isLocator; split; exact .inr fun R k => (by kernel_rfl); exact .inl fun R k => rfl
theorem ok_club_isLocator [Fuel] : Ok 265 (SS_club_isLocator (@club_isLocator _)) := okF_of std (.cons ok_club_isSquare .nil) ⟨rfl, rfl, by kernel_rfl, rfl, rfl⟩ (sm_club_isLocator I_club_isLocator) (cuts0 (fun _ => rfl) (by kernel_rfl)) Tryz.func265 (by kernel_rfl) (by kernel_rfl)
abbrev T_club_CheckEntrants : Type 1 := List G_Entrant → {R : Type} → (Int → Option R) → Option R
structure C_club_CheckEntrants where
  N : Nat
  cmp_Or__int : T_cmp_Or__int
  strings_Compare : T_strings_Compare
  kit_Outside : T_kit_Outside
  call_Is : T_call_Is
  kit_IsKey : T_kit_IsKey
  club_isLocator : T_club_isLocator
def club_CheckEntrants_L4 (g : C_club_CheckEntrants) : Nat → List G_Entrant → List G_Entrant → Int → Int → {R : Type} → (Int → Option R) → Option R → Option R
  | 0, _, _, _, _, _, _, _ => none
  | n + 1, v2, v3, v4, v5, _, e0, e1 => (bif (decide (v5 < v4)) then (get_ v3 v5 fun x21 => (g.call_Is x21.f_Call (fun r22 => (bif (!r22) then e0 3 else (g.kit_IsKey x21.f_Category (fun r23 => (bif (!r23) then e0 5 else (g.kit_Outside x21.f_Points 0 1000000000000 (fun r24 => (bif r24 then e0 1 else (bif (!(x21.f_Locator == [])) then (g.club_isLocator x21.f_Locator (fun r25 => (bif (!r25) then e0 3 else (bif (decide (v5 > 0)) then (get_ v2 (w64 (v5 - 1)) fun x26 => (get_ v2 (w64 (v5 - 1)) fun x27 => (g.strings_Compare x26.f_Category x21.f_Category (fun r28 => (g.strings_Compare x27.f_Call x21.f_Call (fun r29 => (g.cmp_Or__int [r28, r29] (fun r30 => (bif (decide (r30 ≥ 0)) then e0 7 else club_CheckEntrants_L4 g n v2 v3 v4 (w64 (v5 + 1)) e0 e1))))))))) else club_CheckEntrants_L4 g n v2 v3 v4 (w64 (v5 + 1)) e0 e1)))) else (bif (decide (v5 > 0)) then (get_ v2 (w64 (v5 - 1)) fun x31 => (get_ v2 (w64 (v5 - 1)) fun x32 => (g.strings_Compare x31.f_Category x21.f_Category (fun r33 => (g.strings_Compare x32.f_Call x21.f_Call (fun r34 => (g.cmp_Or__int [r33, r34] (fun r35 => (bif (decide (r35 ≥ 0)) then e0 7 else club_CheckEntrants_L4 g n v2 v3 v4 (w64 (v5 + 1)) e0 e1))))))))) else club_CheckEntrants_L4 g n v2 v3 v4 (w64 (v5 + 1)) e0 e1)))))))))))) else e1)
def club_CheckEntrants_ (g : C_club_CheckEntrants) (a1 : List G_Entrant) {R : Type} (k0 : Int → Option R) : Option R :=
  (bif (decide ((a1.length : Int) > 500)) then k0 2 else (club_CheckEntrants_L4 g g.N a1 a1 (a1.length : Int) 0 (fun e36 => k0 e36) (k0 0)))
noncomputable def I_club_CheckEntrants [Fuel] : C_club_CheckEntrants := ⟨NN, @cmp_Or__int _, @strings_Compare _, @kit_Outside _, @call_Is _, @kit_IsKey _, @club_isLocator _⟩
noncomputable def club_CheckEntrants [Fuel] : T_club_CheckEntrants := @club_CheckEntrants_ I_club_CheckEntrants
def SS_club_CheckEntrants (g : T_club_CheckEntrants) : Spec A := fun args => match args with | [.d (.sl 148 a1)] => fun k => g a1 (fun z0 => k (.d (.int .i64 z0)) [.undef]) | _ => fun _ => none
def sh_club_CheckEntrants_L4 : SSt := mkSh 66 2 [(0, .sl 148), (8, .sl 148), (9, .int .i64), (10, .int .i64)] []
def LP_club_CheckEntrants_L4 (g : C_club_CheckEntrants) (n : Nat) : LPT A := fun ps => match ps with | [.d (.sl 148 p1), .d (.sl 148 p2), .d (.int .i64 p3), .d (.int .i64 p4)] => fun K => club_CheckEntrants_L4 g n p1 p2 p3 p4 (fun z0 => K .ret (mkSt 66 2 [(2, .d (.int .i64 z0))] [])) (K (.exit 0) (mkSt 66 2 [] [])) | _ => fun _ => none
noncomputable def code_187 : Code := (Tryz.f187.body).getD .skip
noncomputable def E_club_CheckEntrants (g : C_club_CheckEntrants) : Env A := mkE [(113, SS_cmp_Or__int g.cmp_Or__int), (114, SS_strings_Compare g.strings_Compare), (127, SS_kit_Outside g.kit_Outside), (129, SS_call_Is g.call_Is), (130, SS_kit_IsKey g.kit_IsKey), (265, SS_club_isLocator g.club_isLocator)] [(4, [0]), (61, [1])] [(4, ⟨[0, 8, 9, 10], [], [], []⟩)] [(4, ⟨[2], [], [], []⟩)] [(4, pieceOf sh_club_CheckEntrants_L4 (LP_club_CheckEntrants_L4 g g.N))] [] [] [] [] []
theorem ct_club_CheckEntrants [Fuel] : NatTab (E_club_CheckEntrants I_club_CheckEntrants).C := ct_of (P := Tryz.prog) (T := T) (.cons ok_cmp_Or__int (.cons ok_strings_Compare (.cons ok_kit_Outside (.cons ok_call_Is (.cons ok_kit_IsKey (.cons ok_club_isLocator .nil)))))) (by kernel_rfl)
noncomputable def cb_club_CheckEntrants_L4 : Code := sub [1, 1, 0, 1, 0, 0] code_187
theorem s_club_CheckEntrants_L4 (g : C_club_CheckEntrants) (n : Nat) : StepOk (E_club_CheckEntrants g) g.N cb_club_CheckEntrants_L4 sh_club_CheckEntrants_L4 (LP_club_CheckEntrants_L4 g) n := by intro ps; unfold LP_club_CheckEntrants_L4; split; exact .inr fun R K => (by kernel_rfl); exact .inl fun R K => rfl
theorem lf_club_CheckEntrants_L4 [Fuel] : LoopFine (E_club_CheckEntrants I_club_CheckEntrants) NN cb_club_CheckEntrants_L4 := fine_loop sh_club_CheckEntrants_L4 (LP_club_CheckEntrants_L4 I_club_CheckEntrants) (by kernel_rfl) ct_club_CheckEntrants (cuts0 (fun _ => rfl) (by kernel_rfl)) (fun ps R K => by unfold LP_club_CheckEntrants_L4; split <;> (try unfold club_CheckEntrants_L4) <;> rfl) (s_club_CheckEntrants_L4 I_club_CheckEntrants)
theorem sm_club_CheckEntrants (g : C_club_CheckEntrants) : Same (SS_club_CheckEntrants (@club_CheckEntrants_ g)) (abody (E_club_CheckEntrants g) Tryz.f187 code_187 2 [] [.asis] g.N) := by intro args; unfold SS_club_CheckEntrants; split; exact .inr fun R k => (by kernel_rfl); exact .inl fun R k => rfl
theorem ok_club_CheckEntrants [Fuel] : Ok 187 (SS_club_CheckEntrants (@club_CheckEntrants _)) := okF_of std (.cons ok_cmp_Or__int (.cons ok_strings_Compare (.cons ok_kit_Outside (.cons ok_call_Is (.cons ok_kit_IsKey (.cons ok_club_isLocator .nil)))))) ⟨rfl, rfl, by kernel_rfl, rfl, rfl⟩ (sm_club_CheckEntrants I_club_CheckEntrants) (cutsL (fun _ => rfl) (.cons lf_club_CheckEntrants_L4 .nil) (by kernel_rfl)) Tryz.func187 (by kernel_rfl) (by kernel_rfl)
abbrev T_club_ranked_1 : Type 1 := G_Place → G_Place → {R : Type} → (Int → Option R) → Option R
structure C_club_ranked_1 where
  N : Nat
  cmp_Or__int : T_cmp_Or__int
  strings_Compare : T_strings_Compare
  cmp_Compare__int : T_cmp_Compare__int
def club_ranked_1_ (g : C_club_ranked_1) (a1 a2 : G_Place) {R : Type} (k0 : Int → Option R) : Option R :=
  (g.cmp_Compare__int a2.f_Points a1.f_Points (fun r3 => (g.strings_Compare a1.f_Key a2.f_Key (fun r4 => (g.cmp_Or__int [r3, r4] (fun r5 => k0 r5))))))
noncomputable def I_club_ranked_1 [Fuel] : C_club_ranked_1 := ⟨NN, @cmp_Or__int _, @strings_Compare _, @cmp_Compare__int _⟩
noncomputable def club_ranked_1 [Fuel] : T_club_ranked_1 := @club_ranked_1_ I_club_ranked_1
def SS_club_ranked_1 (g : T_club_ranked_1) : Spec A := fun args => match args with | [.agg [.d (.int .i64 a1), .d (.int .i64 a2), .d (.str a3)], .agg [.d (.int .i64 a4), .d (.int .i64 a5), .d (.str a6)]] => fun k => g ⟨a1, a2, a3⟩ ⟨a4, a5, a6⟩ (fun z0 => k (.d (.int .i64 z0)) [.undef, .undef]) | _ => fun _ => none
noncomputable def code_267 : Code := (Tryz.f267.body).getD .skip
noncomputable def E_club_ranked_1 (g : C_club_ranked_1) : Env A := mkE [(113, SS_cmp_Or__int g.cmp_Or__int), (114, SS_strings_Compare g.strings_Compare), (170, SS_cmp_Compare__int g.cmp_Compare__int)] [(2, [0]), (3, [1]), (15, [2])] [] [] [] [] [] [] [] []
theorem sm_club_ranked_1 (g : C_club_ranked_1) : Same (SS_club_ranked_1 (@club_ranked_1_ g)) (abody (E_club_ranked_1 g) Tryz.f267 code_267 3 [] [.asis] g.N) := by intro args; unfold SS_club_ranked_1; split; exact .inr fun R k => (by kernel_rfl); exact .inl fun R k => rfl
theorem ok_club_ranked_1 [Fuel] : Ok 267 (SS_club_ranked_1 (@club_ranked_1 _)) := okF_of std (.cons ok_cmp_Or__int (.cons ok_strings_Compare (.cons ok_cmp_Compare__int .nil))) ⟨rfl, rfl, by kernel_rfl, rfl, rfl⟩ (sm_club_ranked_1 I_club_ranked_1) (cuts0 (fun _ => rfl) (by kernel_rfl)) Tryz.func267 (by kernel_rfl) (by kernel_rfl)
noncomputable def Ed_club_ranked_1 (g : C_club_ranked_1) : Env A := mkED [(113, SS_cmp_Or__int g.cmp_Or__int), (114, SS_strings_Compare g.strings_Compare), (170, SS_cmp_Compare__int g.cmp_Compare__int)] [(2, [0]), (3, [1]), (15, [2])] [] [] [] [] [] [] [] []
theorem smd_club_ranked_1 (g : C_club_ranked_1) : Same (SS_club_ranked_1 (@club_ranked_1_ g)) (abody (Ed_club_ranked_1 g) Tryz.f267 code_267 3 [] [.asis] g.N) := by intro args; unfold SS_club_ranked_1; split; exact .inr fun R k => (by kernel_rfl); exact .inl fun R k => rfl
theorem okd_club_ranked_1 [Fuel] : OkD 267 (SS_club_ranked_1 (@club_ranked_1 _)) := okF_of stdD (.cons okd_cmp_Or__int (.cons okd_strings_Compare (.cons okd_cmp_Compare__int .nil))) ⟨rfl, rfl, by kernel_rfl, rfl, rfl⟩ (smd_club_ranked_1 I_club_ranked_1) (cuts0 (fun _ => rfl) (by kernel_rfl)) Tryz.func267 (by kernel_rfl) (by kernel_rfl)
abbrev T_slices_SortFunc__Place_club_ranked_1 : Type 1 := List G_Place → {R : Type} → (List G_Place → Option R) → Option R
noncomputable def slices_SortFunc__Place_club_ranked_1 [Fuel] : T_slices_SortFunc__Place_club_ranked_1 := @X_sortf G_Place (@club_ranked_1 _)
def SS_slices_SortFunc__Place_club_ranked_1 (g : T_slices_SortFunc__Place_club_ranked_1) : Spec A := fun args => match args with | [.arr 151 a1, .fn 267 []] => fun k => g a1 (fun z => k (.tup []) [.arr 151 z, .fn 267 []]) | _ => fun _ => none
theorem h1_slices_SortFunc__Place_club_ranked_1 [Fuel] (xs : List (A 151)) (R : Type) (k : IV A → List (IV A) → Option R) : SS_slices_SortFunc__Place_club_ranked_1 (@slices_SortFunc__Place_club_ranked_1 _) [.arr 151 xs, .fn 267 []] k = X_sortf (α := A 151) (@club_ranked_1 _) xs (fun z => k (.tup []) [.arr 151 z, .fn 267 []]) := by kernel_rfl
theorem h2_slices_SortFunc__Place_club_ranked_1 [Fuel] (args : List (IV A)) (R : Type) (k : IV A → List (IV A) → Option R) (h : ∀ xs : List (A 151), args ≠ [.arr 151 xs, .fn 267 []]) : SS_slices_SortFunc__Place_club_ranked_1 (@slices_SortFunc__Place_club_ranked_1 _) args k = none := by unfold SS_slices_SortFunc__Place_club_ranked_1; split; exact absurd rfl (h _); rfl
theorem hc_slices_SortFunc__Place_club_ranked_1 [Fuel] (x y : A 151) (R : Type) (k : Int → Option R) : callOf T (SS_club_ranked_1 (@club_ranked_1 _)) 151 x y k = @club_ranked_1 _ x y R k := by kernel_rfl
theorem hs_slices_SortFunc__Place_club_ranked_1 (x : G_Place) : (enc_e151 x).all scal = true := rfl
theorem ok_slices_SortFunc__Place_club_ranked_1 [Fuel] : Ok 266 (SS_slices_SortFunc__Place_club_ranked_1 (@slices_SortFunc__Place_club_ranked_1 _)) := ⟨sortf_sound (tyOk Tryz.prog) (e := 151) Tryz.sortf266 Tryz.isAgg151 Tryz.sizeOf151 (fun x d hd => List.all_eq_true.1 (hs_slices_SortFunc__Place_club_ranked_1 x) d hd) hc_slices_SortFunc__Place_club_ranked_1 okd_club_ranked_1.fs okd_club_ranked_1.en h1_slices_SortFunc__Place_club_ranked_1 h2_slices_SortFunc__Place_club_ranked_1, sortf_na (e := 151) h1_slices_SortFunc__Place_club_ranked_1 h2_slices_SortFunc__Place_club_ranked_1, enters_of (fn := Tryz.f266) Tryz.func266 (by kernel_rfl) (by kernel_rfl)⟩
abbrev T_club_ranked : Type 1 := List G_Place → {R : Type} → (List G_Place → Option R) → Option R
structure C_club_ranked where
  N : Nat
  slices_SortFunc__Place_club_ranked_1 : T_slices_SortFunc__Place_club_ranked_1
def club_ranked_L3 (g : C_club_ranked) : Nat → Int → Int → List G_Place → {R : Type} → (List G_Place → Option R) → Option R
  | 0, _, _, _, _, _ => none
  | n + 1, v3, v4, v5, _, e0 => (bif (decide (v4 < v3)) then (inr v5 v4 (at_ v5 v4 fun x11 => (bif (decide (v4 > 0)) then (inr (set_ v5 v4 (⟨(w64 (v4 + 1)), x11.f_Points, x11.f_Key⟩ : G_Place)) v4 (at_ (set_ v5 v4 (⟨(w64 (v4 + 1)), x11.f_Points, x11.f_Key⟩ : G_Place)) v4 fun x12 => (inr (set_ v5 v4 (⟨(w64 (v4 + 1)), x11.f_Points, x11.f_Key⟩ : G_Place)) (w64 (v4 - 1)) (at_ (set_ v5 v4 (⟨(w64 (v4 + 1)), x11.f_Points, x11.f_Key⟩ : G_Place)) (w64 (v4 - 1)) fun x13 => (bif (x12.f_Points == x13.f_Points) then (inr (set_ v5 v4 (⟨(w64 (v4 + 1)), x11.f_Points, x11.f_Key⟩ : G_Place)) (w64 (v4 - 1)) (at_ (set_ v5 v4 (⟨(w64 (v4 + 1)), x11.f_Points, x11.f_Key⟩ : G_Place)) (w64 (v4 - 1)) fun x14 => (inr (set_ v5 v4 (⟨(w64 (v4 + 1)), x11.f_Points, x11.f_Key⟩ : G_Place)) v4 (at_ (set_ v5 v4 (⟨(w64 (v4 + 1)), x11.f_Points, x11.f_Key⟩ : G_Place)) v4 fun x15 => club_ranked_L3 g n v3 (w64 (v4 + 1)) (set_ (set_ v5 v4 (⟨(w64 (v4 + 1)), x11.f_Points, x11.f_Key⟩ : G_Place)) v4 (⟨x14.f_Rank, x15.f_Points, x15.f_Key⟩ : G_Place)) e0)))) else club_ranked_L3 g n v3 (w64 (v4 + 1)) (set_ v5 v4 (⟨(w64 (v4 + 1)), x11.f_Points, x11.f_Key⟩ : G_Place)) e0))))) else club_ranked_L3 g n v3 (w64 (v4 + 1)) (set_ v5 v4 (⟨(w64 (v4 + 1)), x11.f_Points, x11.f_Key⟩ : G_Place)) e0))) else e0 v5)
def club_ranked_ (g : C_club_ranked) (a1 : List G_Place) {R : Type} (k0 : List G_Place → Option R) : Option R :=
  (g.slices_SortFunc__Place_club_ranked_1 a1 (fun r2 => (club_ranked_L3 g g.N (r2.length : Int) 0 r2 (fun e16 => k0 e16))))
noncomputable def I_club_ranked [Fuel] : C_club_ranked := ⟨NN, @slices_SortFunc__Place_club_ranked_1 _⟩
noncomputable def club_ranked [Fuel] : T_club_ranked := @club_ranked_ I_club_ranked
def SS_club_ranked (g : T_club_ranked) : Spec A := fun args => match args with | [.arr 151 a1] => fun k => g a1 (fun z0 => k (.arr 151 z0) [.undef]) | _ => fun _ => none
def sh_club_ranked_L3 : SSt := mkSh 45 1 [(0, .own 151 0), (7, .int .i64), (8, .int .i64)] [(0, .row 151)]
def LP_club_ranked_L3 (g : C_club_ranked) (n : Nat) : LPT A := fun ps => match ps with | [.d (.int .i64 p1), .d (.int .i64 p2), .d (.sl 151 p3)] => fun K => club_ranked_L3 g n p1 p2 p3 (fun z0 => K (.exit 0) (mkSt 45 1 [(0, .own 151 0)] [(0, some (.row 151 z0))])) | _ => fun _ => none
noncomputable def code_188 : Code := (Tryz.f188.body).getD .skip
noncomputable def E_club_ranked (g : C_club_ranked) : Env A := mkE [(266, SS_slices_SortFunc__Place_club_ranked_1 g.slices_SortFunc__Place_club_ranked_1)] [] [(3, ⟨[0, 7, 8], [], [0], []⟩)] [(3, ⟨[0], [], [0], []⟩)] [(3, pieceOf sh_club_ranked_L3 (LP_club_ranked_L3 g g.N))] [] [] [] [(266, 0)] []
theorem ct_club_ranked [Fuel] : NatTab (E_club_ranked I_club_ranked).C := ct_of (P := Tryz.prog) (T := T) (.cons ok_slices_SortFunc__Place_club_ranked_1 .nil) (by kernel_rfl)
noncomputable def cb_club_ranked_L3 : Code := sub [1, 1, 0, 1, 0, 0] code_188
theorem s_club_ranked_L3 (g : C_club_ranked) (n : Nat) : StepOk (E_club_ranked g) g.N cb_club_ranked_L3 sh_club_ranked_L3 (LP_club_ranked_L3 g) n := by intro ps; unfold LP_club_ranked_L3; split; exact .inr fun R K => (by kernel_rfl); exact .inl fun R K => rfl
theorem lf_club_ranked_L3 [Fuel] : LoopFine (E_club_ranked I_club_ranked) NN cb_club_ranked_L3 := fine_loop sh_club_ranked_L3 (LP_club_ranked_L3 I_club_ranked) (by kernel_rfl) ct_club_ranked (cuts0 (fun _ => rfl) (by kernel_rfl)) (fun ps R K => by unfold LP_club_ranked_L3; split <;> (try unfold club_ranked_L3) <;> rfl) (s_club_ranked_L3 I_club_ranked)
theorem sm_club_ranked (g : C_club_ranked) : Same (SS_club_ranked (@club_ranked_ g)) (abody (E_club_ranked g) Tryz.f188 code_188 1 [0] [.arr 151] g.N) := by intro args; unfold SS_club_ranked; split; exact .inr fun R k => (by kernel_rfl); exact .inl fun R k => rfl
theorem ok_club_ranked [Fuel] : Ok 188 (SS_club_ranked (@club_ranked _)) := okF_of std (.cons ok_slices_SortFunc__Place_club_ranked_1 .nil) ⟨rfl, rfl, by kernel_rfl, rfl, rfl⟩ (sm_club_ranked I_club_ranked) (cutsL (fun _ => rfl) (.cons lf_club_ranked_L3 .nil) (by kernel_rfl)) Tryz.func188 (by kernel_rfl) (by kernel_rfl)
abbrev T_club_Table : Type 1 := List G_Entrant → List UInt8 → {R : Type} → (List G_Place → Int → Option R) → Option R
structure C_club_Table where
  N : Nat
  kit_IsKey : T_kit_IsKey
  club_CheckEntrants : T_club_CheckEntrants
  club_ranked : T_club_ranked
def club_Table_L8 (g : C_club_Table) : Nat → List UInt8 → List G_Entrant → Int → Int → List G_Place → {R : Type} → (List G_Place → Option R) → Option R
  | 0, _, _, _, _, _, _, _ => none
  | n + 1, v5, v6, v7, v8, v9, _, e0 => (bif (decide (v8 < v7)) then (get_ v6 v8 fun x11 => (bif (x11.f_Category == v5) then (bif (decide ((v9.length + [(⟨0, x11.f_Points, x11.f_Call⟩ : G_Place)].length) * 32 ≤ roomBytes')) then club_Table_L8 g n v5 v6 v7 (w64 (v8 + 1)) (v9 ++ [(⟨0, x11.f_Points, x11.f_Call⟩ : G_Place)]) e0 else none) else club_Table_L8 g n v5 v6 v7 (w64 (v8 + 1)) v9 e0)) else e0 v9)
def club_Table_ (g : C_club_Table) (a1 : List G_Entrant) (a2 : List UInt8) {R : Type} (k0 : List G_Place → Int → Option R) : Option R :=
  (g.club_CheckEntrants a1 (fun r3 => (bif (r3 != 0) then k0 [] r3 else (g.kit_IsKey a2 (fun r4 => (bif (!r4) then k0 [] 5 else (club_Table_L8 g g.N a2 a1 (a1.length : Int) 0 [] (fun e12 => (g.club_ranked e12 (fun r13 => k0 r13 0))))))))))
noncomputable def I_club_Table [Fuel] : C_club_Table := ⟨NN, @kit_IsKey _, @club_CheckEntrants _, @club_ranked _⟩
noncomputable def club_Table [Fuel] : T_club_Table := @club_Table_ I_club_Table
def SS_club_Table (g : T_club_Table) : Spec A := fun args => match args with | [.d (.sl 148 a1), .d (.str a2)] => fun k => g a1 a2 (fun z0 z1 => k (.tup [.arr 151 z0, .d (.int .i64 z1)]) [.undef, .undef]) | _ => fun _ => none
def sh_club_Table_L8 : SSt := mkSh 39 5 [(1, .str), (7, .own 151 0), (18, .sl 148), (19, .int .i64), (20, .int .i64)] [(0, .row 151)]
def LP_club_Table_L8 (g : C_club_Table) (n : Nat) : LPT A := fun ps => match ps with | [.d (.str p1), .d (.sl 148 p2), .d (.int .i64 p3), .d (.int .i64 p4), .d (.sl 151 p5)] => fun K => club_Table_L8 g n p1 p2 p3 p4 p5 (fun z0 => K (.exit 0) (mkSt 39 5 [(7, .own 151 0)] [(0, some (.row 151 z0))])) | _ => fun _ => none
noncomputable def code_131 : Code := (Tryz.f131.body).getD .skip
noncomputable def E_club_Table (g : C_club_Table) : Env A := mkE [(130, SS_kit_IsKey g.kit_IsKey), (187, SS_club_CheckEntrants g.club_CheckEntrants), (188, SS_club_ranked g.club_ranked)] [(9, [1]), (34, [2]), (35, [3]), (38, [4])] [(8, ⟨[1, 7, 18, 19, 20], [(7, 151, 0)], [], []⟩)] [(8, ⟨[7], [], [0], []⟩)] [(8, pieceOf sh_club_Table_L8 (LP_club_Table_L8 g g.N))] [] [] [] [(188, 0)] []
theorem ct_club_Table [Fuel] : NatTab (E_club_Table I_club_Table).C := ct_of (P := Tryz.prog) (T := T) (.cons ok_kit_IsKey (.cons ok_club_CheckEntrants (.cons ok_club_ranked .nil))) (by kernel_rfl)
noncomputable def cb_club_Table_L8 : Code := sub [1, 1, 1, 1, 0, 1, 0, 0] code_131
theorem s_club_Table_L8 (g : C_club_Table) (n : Nat) : StepOk (E_club_Table g) g.N cb_club_Table_L8 sh_club_Table_L8 (LP_club_Table_L8 g) n := by intro ps; unfold LP_club_Table_L8; split; exact .inr fun R K => (by kernel_rfl); exact .inl fun R K => rfl
theorem lf_club_Table_L8 [Fuel] : LoopFine (E_club_Table I_club_Table) NN cb_club_Table_L8 := fine_loop sh_club_Table_L8 (LP_club_Table_L8 I_club_Table) (by kernel_rfl) ct_club_Table (cuts0 (fun _ => rfl) (by kernel_rfl)) (fun ps R K => by unfold LP_club_Table_L8; split <;> (try unfold club_Table_L8) <;> rfl) (s_club_Table_L8 I_club_Table)
theorem sm_club_Table (g : C_club_Table) : Same (SS_club_Table (@club_Table_ g)) (abody (E_club_Table g) Tryz.f131 code_131 5 [] [.arr 151, .asis] g.N) := by intro args; unfold SS_club_Table; split; exact .inr fun R k => (by kernel_rfl); exact .inl fun R k => rfl
theorem ok_club_Table [Fuel] : Ok 131 (SS_club_Table (@club_Table _)) := okF_of std (.cons ok_kit_IsKey (.cons ok_club_CheckEntrants (.cons ok_club_ranked .nil))) ⟨rfl, rfl, by kernel_rfl, rfl, rfl⟩ (sm_club_Table I_club_Table) (cutsL (fun _ => rfl) (.cons lf_club_Table_L8 .nil) (by kernel_rfl)) Tryz.func131 (by kernel_rfl) (by kernel_rfl)
abbrev T_law_joinedClub : Type 1 := {R : Type} → (Bool → Option R) → Option R
structure C_law_joinedClub where
  N : Nat
  club_Table : T_club_Table
def law_joinedClub_ (g : C_law_joinedClub)  {R : Type} (k0 : Bool → Option R) : Option R :=
  (g.club_Table [(⟨[107, 49, 97, 98], [99], 5, []⟩ : G_Entrant)] [99] (fun r1 r2 => (bif (r2 == 0) then (bif ((r1.length : Int) == 1) then (inr r1 0 (at_ r1 0 fun x3 => k0 (x3.f_Points == 5))) else k0 false) else k0 false)))
noncomputable def I_law_joinedClub [Fuel] : C_law_joinedClub := ⟨NN, @club_Table _⟩
noncomputable def law_joinedClub [Fuel] : T_law_joinedClub := @law_joinedClub_ I_law_joinedClub
def SS_law_joinedClub (g : T_law_joinedClub) : Spec A := fun args => match args with | [] => fun k => g (fun z0 => k (.d (.bool z0)) []) | _ => fun _ => none
noncomputable def code_38 : Code := (Tryz.f38.body).getD .skip
noncomputable def E_law_joinedClub (g : C_law_joinedClub) : Env A := mkE [(131, SS_club_Table g.club_Table)] [(5, [0]), (6, [1])] [] [] [] [] [] [] [] []
theorem sm_law_joinedClub (g : C_law_joinedClub) : Same (SS_law_joinedClub (@law_joinedClub_ g)) (abody (E_law_joinedClub g) Tryz.f38 code_38 2 [] [.asis] g.N) := by intro args; unfold SS_law_joinedClub; split; exact .inr fun R k => (by kernel_rfl); exact .inl fun R k => rfl
theorem ok_law_joinedClub [Fuel] : Ok 38 (SS_law_joinedClub (@law_joinedClub _)) := okF_of std (.cons ok_club_Table .nil) ⟨rfl, rfl, by kernel_rfl, rfl, rfl⟩ (sm_law_joinedClub I_law_joinedClub) (cuts0 (fun _ => rfl) (by kernel_rfl)) Tryz.func38 (by kernel_rfl) (by kernel_rfl)
abbrev T_slices_Equal__Card_n1 : Type 1 := List G_Card → {R : Type} → (Bool → Option R) → Option R
def slices_Equal__Card_n1_L4 (g : Nat) : Nat → List G_Card → Int → Int → {R : Type} → Option R → Option R
  | 0, _, _, _, _, _ => none
  | n + 1, v2, v3, v4, _, e0 => (bif (decide (v4 < v3)) then (get_ v2 v4 fun x6 => none) else e0)
def slices_Equal__Card_n1_ (g : Nat) (a1 : List G_Card) {R : Type} (k0 : Bool → Option R) : Option R :=
  (bif ((a1.length : Int) != 0) then k0 false else (slices_Equal__Card_n1_L4 g g a1 (a1.length : Int) 0 (k0 true)))
noncomputable def slices_Equal__Card_n1 [Fuel] : T_slices_Equal__Card_n1 := @slices_Equal__Card_n1_ NN
def SS_slices_Equal__Card_n1 (g : T_slices_Equal__Card_n1) : Spec A := fun args => match args with | [.d (.sl 66 a1), .d .nsl] => fun k => g a1 (fun z0 => k (.d (.bool z0)) [.undef, .undef]) | _ => fun _ => none
def sh_slices_Equal__Card_n1_L4 : SSt := mkSh 26 0 [(0, .sl 66), (1, .nsl), (12, .int .i64), (13, .int .i64)] []
def LP_slices_Equal__Card_n1_L4 (g : Nat) (n : Nat) : LPT A := fun ps => match ps with | [.d (.sl 66 p1), .d (.int .i64 p2), .d (.int .i64 p3)] => fun K => slices_Equal__Card_n1_L4 g n p1 p2 p3 (K (.exit 0) (mkSt 26 0 [] [])) | _ => fun _ => none
noncomputable def E_slices_Equal__Card_n1 (g : Nat) : Env A := mkE [] [] [(4, ⟨[0, 1, 12, 13], [], [], []⟩)] [(4, ⟨[], [], [], []⟩)] [(4, pieceOf sh_slices_Equal__Card_n1_L4 (LP_slices_Equal__Card_n1_L4 g g))] [] [] [] [] []
theorem ct_slices_Equal__Card_n1 [Fuel] : NatTab (E_slices_Equal__Card_n1 NN).C := ct_of (P := Tryz.prog) (T := T) .nil (by kernel_rfl)
noncomputable def cb_slices_Equal__Card_n1_L4 : Code := sub [1, 1, 0, 1, 0, 0] code_36
theorem s_slices_Equal__Card_n1_L4 (g : Nat) (n : Nat) : StepOk (E_slices_Equal__Card_n1 g) g cb_slices_Equal__Card_n1_L4 sh_slices_Equal__Card_n1_L4 (LP_slices_Equal__Card_n1_L4 g) n := by intro ps; unfold LP_slices_Equal__Card_n1_L4; split; exact .inr fun R K => (by kernel_rfl); exact .inl fun R K => rfl
theorem lf_slices_Equal__Card_n1_L4 [Fuel] : LoopFine (E_slices_Equal__Card_n1 NN) NN cb_slices_Equal__Card_n1_L4 := fine_loop sh_slices_Equal__Card_n1_L4 (LP_slices_Equal__Card_n1_L4 NN) (by kernel_rfl) ct_slices_Equal__Card_n1 (cuts0 (fun _ => rfl) (by kernel_rfl)) (fun ps R K => by unfold LP_slices_Equal__Card_n1_L4; split <;> (try unfold slices_Equal__Card_n1_L4) <;> rfl) (s_slices_Equal__Card_n1_L4 NN)
theorem sm_slices_Equal__Card_n1 (g : Nat) : Same (SS_slices_Equal__Card_n1 (@slices_Equal__Card_n1_ g)) (abody (E_slices_Equal__Card_n1 g) Tryz.f36 code_36 0 [] [.asis] g) := by intro args; unfold SS_slices_Equal__Card_n1; split; exact .inr fun R k => (by kernel_rfl); exact .inl fun R k => rfl
theorem ok_slices_Equal__Card_n1 [Fuel] : Ok 36 (SS_slices_Equal__Card_n1 (@slices_Equal__Card_n1 _)) := okF_of std .nil ⟨rfl, rfl, by kernel_rfl, rfl, rfl⟩ (sm_slices_Equal__Card_n1 NN) (cutsL (fun _ => rfl) (.cons lf_slices_Equal__Card_n1_L4 .nil) (by kernel_rfl)) Tryz.func36 (by kernel_rfl) (by kernel_rfl)
abbrev T_slices_Equal__Pair_n1 : Type 1 := List G_Pair → {R : Type} → (Bool → Option R) → Option R
def slices_Equal__Pair_n1_L4 (g : Nat) : Nat → List G_Pair → Int → Int → {R : Type} → Option R → Option R
  | 0, _, _, _, _, _ => none
  | n + 1, v2, v3, v4, _, e0 => (bif (decide (v4 < v3)) then (get_ v2 v4 fun x6 => none) else e0)
def slices_Equal__Pair_n1_ (g : Nat) (a1 : List G_Pair) {R : Type} (k0 : Bool → Option R) : Option R :=
  (bif ((a1.length : Int) != 0) then k0 false else (slices_Equal__Pair_n1_L4 g g a1 (a1.length : Int) 0 (k0 true)))
noncomputable def slices_Equal__Pair_n1 [Fuel] : T_slices_Equal__Pair_n1 := @slices_Equal__Pair_n1_ NN
def SS_slices_Equal__Pair_n1 (g : T_slices_Equal__Pair_n1) : Spec A := fun args => match args with | [.d (.sl 69 a1), .d .nsl] => fun k => g a1 (fun z0 => k (.d (.bool z0)) [.undef, .undef]) | _ => fun _ => none
def sh_slices_Equal__Pair_n1_L4 : SSt := mkSh 26 0 [(0, .sl 69), (1, .nsl), (12, .int .i64), (13, .int .i64)] []
def LP_slices_Equal__Pair_n1_L4 (g : Nat) (n : Nat) : LPT A := fun ps => match ps with | [.d (.sl 69 p1), .d (.int .i64 p2), .d (.int .i64 p3)] => fun K => slices_Equal__Pair_n1_L4 g n p1 p2 p3 (K (.exit 0) (mkSt 26 0 [] [])) | _ => fun _ => none
noncomputable def E_slices_Equal__Pair_n1 (g : Nat) : Env A := mkE [] [] [(4, ⟨[0, 1, 12, 13], [], [], []⟩)] [(4, ⟨[], [], [], []⟩)] [(4, pieceOf sh_slices_Equal__Pair_n1_L4 (LP_slices_Equal__Pair_n1_L4 g g))] [] [] [] [] []
theorem ct_slices_Equal__Pair_n1 [Fuel] : NatTab (E_slices_Equal__Pair_n1 NN).C := ct_of (P := Tryz.prog) (T := T) .nil (by kernel_rfl)
noncomputable def cb_slices_Equal__Pair_n1_L4 : Code := sub [1, 1, 0, 1, 0, 0] code_37
theorem s_slices_Equal__Pair_n1_L4 (g : Nat) (n : Nat) : StepOk (E_slices_Equal__Pair_n1 g) g cb_slices_Equal__Pair_n1_L4 sh_slices_Equal__Pair_n1_L4 (LP_slices_Equal__Pair_n1_L4 g) n := by intro ps; unfold LP_slices_Equal__Pair_n1_L4; split; exact .inr fun R K => (by kernel_rfl); exact .inl fun R K => rfl
theorem lf_slices_Equal__Pair_n1_L4 [Fuel] : LoopFine (E_slices_Equal__Pair_n1 NN) NN cb_slices_Equal__Pair_n1_L4 := fine_loop sh_slices_Equal__Pair_n1_L4 (LP_slices_Equal__Pair_n1_L4 NN) (by kernel_rfl) ct_slices_Equal__Pair_n1 (cuts0 (fun _ => rfl) (by kernel_rfl)) (fun ps R K => by unfold LP_slices_Equal__Pair_n1_L4; split <;> (try unfold slices_Equal__Pair_n1_L4) <;> rfl) (s_slices_Equal__Pair_n1_L4 NN)
theorem sm_slices_Equal__Pair_n1 (g : Nat) : Same (SS_slices_Equal__Pair_n1 (@slices_Equal__Pair_n1_ g)) (abody (E_slices_Equal__Pair_n1 g) Tryz.f37 code_37 0 [] [.asis] g) := by intro args; unfold SS_slices_Equal__Pair_n1; split; exact .inr fun R k => (by kernel_rfl); exact .inl fun R k => rfl
theorem ok_slices_Equal__Pair_n1 [Fuel] : Ok 37 (SS_slices_Equal__Pair_n1 (@slices_Equal__Pair_n1 _)) := okF_of std .nil ⟨rfl, rfl, by kernel_rfl, rfl, rfl⟩ (sm_slices_Equal__Pair_n1 NN) (cutsL (fun _ => rfl) (.cons lf_slices_Equal__Pair_n1_L4 .nil) (by kernel_rfl)) Tryz.func37 (by kernel_rfl) (by kernel_rfl)
abbrev T_law_CardsConfirm : Type 1 := List Int → {R : Type} → (Bool → Option R) → Option R
structure C_law_CardsConfirm where
  N : Nat
  Stream_Range : T_Stream_Range
  law_errs : T_law_errs
  Stream_Cards : T_Stream_Cards
  Stream_Pick : T_Stream_Pick
  club_MergeCards : T_club_MergeCards
  club_Confirmed : T_club_Confirmed
  club_Owed : T_club_Owed
  Q_CardsFault : T_Q_CardsFault
  Q_MomentFault : T_Q_MomentFault
  Q_CardsOf : T_Q_CardsOf
  Q_ConfirmedBy : T_Q_ConfirmedBy
  Q_OwedBy : T_Q_OwedBy
  club_CheckCards : T_club_CheckCards
  slices_Equal__Card : T_slices_Equal__Card
  slices_Equal__Card_n1 : T_slices_Equal__Card_n1
  slices_Equal__Pair : T_slices_Equal__Pair
  slices_Equal__Pair_n1 : T_slices_Equal__Pair_n1
  law_joinedClub : T_law_joinedClub
def law_CardsConfirm_ (g : C_law_CardsConfirm) (a1 : List Int) {R : Type} (k0 : Bool → Option R) : Option R :=
  (g.Stream_Range (⟨a1, 0⟩ : G_Stream) 0 14 (fun r2 r3 => (g.Stream_Cards r3 r2 (fun r4 r5 => (g.Stream_Range r5 0 6 (fun r6 r7 => (g.Stream_Cards r7 r6 (fun r8 r9 => (g.Stream_Pick r9 [0, 10, 30, 60, 200, (-1)] (fun r10 r11 => (g.club_MergeCards r4 r8 (fun r12 r13 => (g.club_Confirmed r4 r10 (fun r14 r15 => (g.club_Owed r4 r10 (fun r16 r17 => (g.Q_CardsFault r4 (fun r18 => (g.Q_CardsFault r8 (fun r19 => (g.law_errs [r18, r19] (fun r20 => (g.Q_CardsFault r4 (fun r21 => (g.Q_MomentFault r10 (fun r22 => (g.law_errs [r21, r22] (fun r23 => (bif (r20 == 0) then (g.Q_CardsOf r4 r8 (fun r24 r25 => (bif (r23 == 0) then (g.Q_ConfirmedBy r4 r10 (fun r26 => (g.Q_OwedBy r4 r10 (fun r27 => (g.club_CheckCards r4 (fun r28 => (g.Q_CardsFault r4 (fun r29 => (bif (r28 == r29) then (bif (r13 == r25) then (g.slices_Equal__Card r12 r24 (fun r30 => (bif r30 then (bif (r15 == r23) then (g.slices_Equal__Card r14 r26 (fun r31 => (bif r31 then (bif (r17 == r23) then (g.slices_Equal__Pair r16 r27 (fun r32 => (bif r32 then (g.law_joinedClub (fun r33 => k0 r33)) else k0 false))) else k0 false) else k0 false))) else k0 false) else k0 false))) else k0 false) else k0 false))))))))) else (g.club_CheckCards r4 (fun r34 => (g.Q_CardsFault r4 (fun r35 => (bif (r34 == r35) then (bif (r13 == r25) then (g.slices_Equal__Card r12 r24 (fun r36 => (bif r36 then (bif (r15 == r23) then (g.slices_Equal__Card_n1 r14 (fun r37 => (bif r37 then (bif (r17 == r23) then (g.slices_Equal__Pair_n1 r16 (fun r38 => (bif r38 then (g.law_joinedClub (fun r39 => k0 r39)) else k0 false))) else k0 false) else k0 false))) else k0 false) else k0 false))) else k0 false) else k0 false)))))))) else (bif (r23 == 0) then (g.Q_ConfirmedBy r4 r10 (fun r40 => (g.Q_OwedBy r4 r10 (fun r41 => (g.club_CheckCards r4 (fun r42 => (g.Q_CardsFault r4 (fun r43 => (bif (r42 == r43) then (bif (r13 == r20) then (g.slices_Equal__Card_n1 r12 (fun r44 => (bif r44 then (bif (r15 == r23) then (g.slices_Equal__Card r14 r40 (fun r45 => (bif r45 then (bif (r17 == r23) then (g.slices_Equal__Pair r16 r41 (fun r46 => (bif r46 then (g.law_joinedClub (fun r47 => k0 r47)) else k0 false))) else k0 false) else k0 false))) else k0 false) else k0 false))) else k0 false) else k0 false))))))))) else (g.club_CheckCards r4 (fun r48 => (g.Q_CardsFault r4 (fun r49 => (bif (r48 == r49) then (bif (r13 == r20) then (g.slices_Equal__Card_n1 r12 (fun r50 => (bif r50 then (bif (r15 == r23) then (g.slices_Equal__Card_n1 r14 (fun r51 => (bif r51 then (bif (r17 == r23) then (g.slices_Equal__Pair_n1 r16 (fun r52 => (bif r52 then (g.law_joinedClub (fun r53 => k0 r53)) else k0 false))) else k0 false) else k0 false))) else k0 false) else k0 false))) else k0 false) else k0 false)))))))))))))))))))))))))))))))))))
noncomputable def I_law_CardsConfirm [Fuel] : C_law_CardsConfirm := ⟨NN, @Stream_Range _, @law_errs _, @Stream_Cards _, @Stream_Pick _, @club_MergeCards _, @club_Confirmed _, @club_Owed _, @Q_CardsFault _, @Q_MomentFault _, @Q_CardsOf _, @Q_ConfirmedBy _, @Q_OwedBy _, @club_CheckCards _, @slices_Equal__Card _, @slices_Equal__Card_n1 _, @slices_Equal__Pair _, @slices_Equal__Pair_n1 _, @law_joinedClub _⟩
noncomputable def law_CardsConfirm [Fuel] : T_law_CardsConfirm := @law_CardsConfirm_ I_law_CardsConfirm
def SS_law_CardsConfirm (g : T_law_CardsConfirm) : Spec A := fun args => match args with | [.d (.sl 3 a1)] => fun k => g a1 (fun z0 => k (.d (.bool z0)) [.undef]) | _ => fun _ => none
noncomputable def code_4 : Code := (Tryz.f4.body).getD .skip
noncomputable def E_law_CardsConfirm (g : C_law_CardsConfirm) : Env A := mkE [(8, SS_Stream_Range g.Stream_Range), (15, SS_law_errs g.law_errs), (25, SS_Stream_Cards g.Stream_Cards), (26, SS_Stream_Pick g.Stream_Pick), (27, SS_club_MergeCards g.club_MergeCards), (28, SS_club_Confirmed g.club_Confirmed), (29, SS_club_Owed g.club_Owed), (30, SS_Q_CardsFault g.Q_CardsFault), (31, SS_Q_MomentFault g.Q_MomentFault), (32, SS_Q_CardsOf g.Q_CardsOf), (33, SS_Q_ConfirmedBy g.Q_ConfirmedBy), (34, SS_Q_OwedBy g.Q_OwedBy), (35, SS_club_CheckCards g.club_CheckCards), (36, orS p_slices_Equal__Card (SS_slices_Equal__Card g.slices_Equal__Card) (SS_slices_Equal__Card_n1 g.slices_Equal__Card_n1)), (37, orS p_slices_Equal__Pair (SS_slices_Equal__Pair g.slices_Equal__Pair) (SS_slices_Equal__Pair_n1 g.slices_Equal__Pair_n1)), (38, SS_law_joinedClub g.law_joinedClub)] [(20, [0]), (24, [1]), (28, [2]), (30, [3]), (35, [4]), (41, [5]), (47, [6]), (54, [7]), (60, [8]), (67, [9]), (74, [10]), (77, [11])] [] [] [] [] [] [] [] []
theorem sm_law_CardsConfirm (g : C_law_CardsConfirm) : Same (SS_law_CardsConfirm (@law_CardsConfirm_ g)) (abody (E_law_CardsConfirm g) Tryz.f4 code_4 12 [] [.asis] g.N) := by intro args; unfold SS_law_CardsConfirm; split; exact .inr fun R k => (by kernel_rfl); exact .inl fun R k => rfl
theorem ok_law_CardsConfirm [Fuel] : Ok 4 (SS_law_CardsConfirm (@law_CardsConfirm _)) := okF_of std (.cons ok_Stream_Range (.cons ok_law_errs (.cons ok_Stream_Cards (.cons ok_Stream_Pick (.cons ok_club_MergeCards (.cons ok_club_Confirmed (.cons ok_club_Owed (.cons ok_Q_CardsFault (.cons ok_Q_MomentFault (.cons ok_Q_CardsOf (.cons ok_Q_ConfirmedBy (.cons ok_Q_OwedBy (.cons ok_club_CheckCards (.cons (ok_or p_slices_Equal__Card ok_slices_Equal__Card ok_slices_Equal__Card_n1) (.cons (ok_or p_slices_Equal__Pair ok_slices_Equal__Pair ok_slices_Equal__Pair_n1) (.cons ok_law_joinedClub .nil)))))))))))))))) ⟨rfl, rfl, by kernel_rfl, rfl, rfl⟩ (sm_law_CardsConfirm I_law_CardsConfirm) (cuts0 (fun _ => rfl) (by kernel_rfl)) Tryz.func4 (by kernel_rfl) (by kernel_rfl)
end Go.Am
