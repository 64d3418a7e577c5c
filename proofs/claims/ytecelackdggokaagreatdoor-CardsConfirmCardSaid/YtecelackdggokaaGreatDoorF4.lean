/- The functions of the program as Lean functions, each shown to be what the code computes, part 4. No condition: lemmas for the claim. -/
import Derived.Test.YtecelackdggokaaGreatDoorF0
import Derived.Test.YtecelackdggokaaGreatDoorFSh
import Derived.Test.YtecelackdggokaaGreatDoorF1
import Derived.Test.YtecelackdggokaaGreatDoorF2
import Derived.Test.YtecelackdggokaaGreatDoorF3
set_option linter.unusedVariables false
set_option maxRecDepth 100000
namespace Go.Am
open Go Go.Proofs
abbrev T_slices_SortFunc__Card_club_compareCards : Type 1 := List G_Card → {R : Type} → (List G_Card → Option R) → Option R
noncomputable def slices_SortFunc__Card_club_compareCards [Fuel] : T_slices_SortFunc__Card_club_compareCards := @X_sortf G_Card (@club_compareCards _)
def SS_slices_SortFunc__Card_club_compareCards (g : T_slices_SortFunc__Card_club_compareCards) : Spec A := fun args => match args with | [.arr 66 a1, .fn 106 []] => fun k => g a1 (fun z => k (.tup []) [.arr 66 z, .fn 106 []]) | _ => fun _ => none
theorem h1_slices_SortFunc__Card_club_compareCards [Fuel] (xs : List (A 66)) (R : Type) (k : IV A → List (IV A) → Option R) : SS_slices_SortFunc__Card_club_compareCards (@slices_SortFunc__Card_club_compareCards _) [.arr 66 xs, .fn 106 []] k = X_sortf (α := A 66) (@club_compareCards _) xs (fun z => k (.tup []) [.arr 66 z, .fn 106 []]) := by kernel_rfl
theorem h2_slices_SortFunc__Card_club_compareCards [Fuel] (args : List (IV A)) (R : Type) (k : IV A → List (IV A) → Option R) (h : ∀ xs : List (A 66), args ≠ [.arr 66 xs, .fn 106 []]) : SS_slices_SortFunc__Card_club_compareCards (@slices_SortFunc__Card_club_compareCards _) args k = none := by unfold SS_slices_SortFunc__Card_club_compareCards; split; exact absurd rfl (h _); rfl
theorem hc_slices_SortFunc__Card_club_compareCards [Fuel] (x y : A 66) (R : Type) (k : Int → Option R) : callOf T (SS_club_compareCards (@club_compareCards _)) 66 x y k = @club_compareCards _ x y R k := by kernel_rfl
theorem hs_slices_SortFunc__Card_club_compareCards (x : G_Card) : (enc_e66 x).all scal = true := rfl
theorem ok_slices_SortFunc__Card_club_compareCards [Fuel] : Ok 105 (SS_slices_SortFunc__Card_club_compareCards (@slices_SortFunc__Card_club_compareCards _)) := ⟨sortf_sound (tyOk Tryz.prog) (e := 66) Tryz.sortf105 Tryz.isAgg66 Tryz.sizeOf66 (fun x d hd => List.all_eq_true.1 (hs_slices_SortFunc__Card_club_compareCards x) d hd) hc_slices_SortFunc__Card_club_compareCards okd_club_compareCards.fs okd_club_compareCards.en h1_slices_SortFunc__Card_club_compareCards h2_slices_SortFunc__Card_club_compareCards, sortf_na (e := 66) h1_slices_SortFunc__Card_club_compareCards h2_slices_SortFunc__Card_club_compareCards, enters_of (fn := Tryz.f105) Tryz.func105 (by kernel_rfl) (by kernel_rfl)⟩
abbrev T_club_MergeCards : Type 1 := List G_Card → List G_Card → {R : Type} → (List G_Card → Int → Option R) → Option R
structure C_club_MergeCards where
  N : Nat
  club_CheckCards : T_club_CheckCards
  slices_Compact__Card : T_slices_Compact__Card
  slices_Concat__Card : T_slices_Concat__Card
  slices_SortFunc__Card_club_compareCards : T_slices_SortFunc__Card_club_compareCards
def club_MergeCards_L2 (g : C_club_MergeCards) : Nat → List G_Card → List G_Card → Int → Int → List (List G_Card) → {R : Type} → (List G_Card → List G_Card → Int → Option R) → (List G_Card → List G_Card → Option R) → Option R
  | 0, _, _, _, _, _, _, _, _ => none
  | n + 1, v3, v4, v5, v6, v7, _, e0, e1 => (bif (decide (v6 < v5)) then (inr v7 v6 (at_ v7 v6 fun x10 => (g.club_CheckCards x10 (fun r11 => (bif (r11 != 0) then e0 v3 v4 r11 else club_MergeCards_L2 g n v3 v4 v5 (w64 (v6 + 1)) v7 e0 e1))))) else e1 v3 v4)
def club_MergeCards_ (g : C_club_MergeCards) (a1 a2 : List G_Card) {R : Type} (k0 : List G_Card → Int → Option R) : Option R :=
  (club_MergeCards_L2 g g.N a1 a2 ([a1, a2].length : Int) 0 [a1, a2] (fun e12 e13 e14 => k0 [] e14) (fun e15 e16 => (g.slices_Concat__Card [e15, e16] (fun r17 => (g.slices_SortFunc__Card_club_compareCards r17 (fun r18 => (g.slices_Compact__Card r18 (fun r19 => (bif (decide ((r19.length : Int) > 3000)) then k0 [] 2 else k0 r19 0)))))))))
noncomputable def I_club_MergeCards [Fuel] : C_club_MergeCards := ⟨NN, @club_CheckCards _, @slices_Compact__Card _, @slices_Concat__Card _, @slices_SortFunc__Card_club_compareCards _⟩
noncomputable def club_MergeCards [Fuel] : T_club_MergeCards := @club_MergeCards_ I_club_MergeCards
def SS_club_MergeCards (g : T_club_MergeCards) : Spec A := fun args => match args with | [.d (.sl 66 a1), .d (.sl 66 a2)] => fun k => g a1 a2 (fun z0 z1 => k (.tup [.arr 66 z0, .d (.int .i64 z1)]) [.undef, .undef]) | _ => fun _ => none
def sh_club_MergeCards_L2 : SSt := mkSh 36 4 [(0, .sl 66), (1, .sl 66), (12, .own 51 0), (13, .int .i64), (14, .int .i64)] [(0, .row 51)]
def LP_club_MergeCards_L2 (g : C_club_MergeCards) (n : Nat) : LPT A := fun ps => match ps with | [.d (.sl 66 p1), .d (.sl 66 p2), .d (.int .i64 p3), .d (.int .i64 p4), .d (.sl 51 p5)] => fun K => club_MergeCards_L2 g n p1 p2 p3 p4 p5 (fun z0 z1 z2 => K .ret (mkSt 36 4 [(0, .d (.sl 66 z0)), (1, .d (.sl 66 z1)), (4, .d .nsl), (5, .d (.int .i64 z2))] [])) (fun z0 z1 => K (.exit 0) (mkSt 36 4 [(0, .d (.sl 66 z0)), (1, .d (.sl 66 z1))] [])) | _ => fun _ => none
noncomputable def code_27 : Code := (Tryz.f27.body).getD .skip
noncomputable def E_club_MergeCards (g : C_club_MergeCards) : Env A := mkE [(35, SS_club_CheckCards g.club_CheckCards), (103, SS_slices_Compact__Card g.slices_Compact__Card), (104, SS_slices_Concat__Card g.slices_Concat__Card), (105, SS_slices_SortFunc__Card_club_compareCards g.slices_SortFunc__Card_club_compareCards)] [(12, [0]), (26, [1]), (27, [2]), (31, [3])] [(2, ⟨[0, 1, 12, 13, 14], [], [0], []⟩)] [(2, ⟨[0, 1, 4, 5], [], [], []⟩)] [(2, pieceOf sh_club_MergeCards_L2 (LP_club_MergeCards_L2 g g.N))] [] [] [] [(103, 0), (105, 0)] []
theorem ct_club_MergeCards [Fuel] : NatTab (E_club_MergeCards I_club_MergeCards).C := ct_of (P := Tryz.prog) (T := T) (.cons ok_club_CheckCards (.cons ok_slices_Compact__Card (.cons ok_slices_Concat__Card (.cons ok_slices_SortFunc__Card_club_compareCards .nil)))) (by kernel_rfl)
noncomputable def cb_club_MergeCards_L2 : Code := sub [1, 0, 1, 0, 0] code_27
theorem s_club_MergeCards_L2 (g : C_club_MergeCards) (n : Nat) : StepOk (E_club_MergeCards g) g.N cb_club_MergeCards_L2 sh_club_MergeCards_L2 (LP_club_MergeCards_L2 g) n := by intro ps; unfold LP_club_MergeCards_L2; split; exact .inr fun R K => (by kernel_rfl); exact .inl fun R K => rfl
theorem lf_club_MergeCards_L2 [Fuel] : LoopFine (E_club_MergeCards I_club_MergeCards) NN cb_club_MergeCards_L2 := fine_loop sh_club_MergeCards_L2 (LP_club_MergeCards_L2 I_club_MergeCards) (by kernel_rfl) ct_club_MergeCards (cuts0 (fun _ => rfl) (by kernel_rfl)) (fun ps R K => by unfold LP_club_MergeCards_L2; split <;> (try unfold club_MergeCards_L2) <;> rfl) (s_club_MergeCards_L2 I_club_MergeCards)
theorem sm_club_MergeCards (g : C_club_MergeCards) : Same (SS_club_MergeCards (@club_MergeCards_ g)) (abody (E_club_MergeCards g) Tryz.f27 code_27 4 [] [.arr 66, .asis] g.N) := by intro args; unfold SS_club_MergeCards; split; exact .inr fun R k => (by kernel_rfl); exact .inl fun R k => rfl
theorem ok_club_MergeCards [Fuel] : Ok 27 (SS_club_MergeCards (@club_MergeCards _)) := okF_of std (.cons ok_club_CheckCards (.cons ok_slices_Compact__Card (.cons ok_slices_Concat__Card (.cons ok_slices_SortFunc__Card_club_compareCards .nil)))) ⟨rfl, rfl, by kernel_rfl, rfl, rfl⟩ (sm_club_MergeCards I_club_MergeCards) (cutsL (fun _ => rfl) (.cons lf_club_MergeCards_L2 .nil) (by kernel_rfl)) Tryz.func27 (by kernel_rfl) (by kernel_rfl)
abbrev T_club_cardsFault : Type 1 := List G_Card → Int → {R : Type} → (Int → Option R) → Option R
structure C_club_cardsFault where
  N : Nat
  club_CheckCards : T_club_CheckCards
  kit_IsMoment : T_kit_IsMoment
def club_cardsFault_ (g : C_club_cardsFault) (a1 : List G_Card) (a2 : Int) {R : Type} (k0 : Int → Option R) : Option R :=
  (g.club_CheckCards a1 (fun r3 => (bif (r3 != 0) then k0 r3 else (g.kit_IsMoment a2 (fun r4 => (bif (!r4) then k0 1 else k0 0))))))
noncomputable def I_club_cardsFault [Fuel] : C_club_cardsFault := ⟨NN, @club_CheckCards _, @kit_IsMoment _⟩
noncomputable def club_cardsFault [Fuel] : T_club_cardsFault := @club_cardsFault_ I_club_cardsFault
def SS_club_cardsFault (g : T_club_cardsFault) : Spec A := fun args => match args with | [.d (.sl 66 a1), .d (.int .i64 a2)] => fun k => g a1 a2 (fun z0 => k (.d (.int .i64 z0)) [.undef, .undef]) | _ => fun _ => none
noncomputable def code_107 : Code := (Tryz.f107.body).getD .skip
noncomputable def E_club_cardsFault (g : C_club_cardsFault) : Env A := mkE [(35, SS_club_CheckCards g.club_CheckCards), (126, SS_kit_IsMoment g.kit_IsMoment)] [] [] [] [] [] [] [] [] []
theorem sm_club_cardsFault (g : C_club_cardsFault) : Same (SS_club_cardsFault (@club_cardsFault_ g)) (abody (E_club_cardsFault g) Tryz.f107 code_107 0 [] [.asis] g.N) := by intro args; unfold SS_club_cardsFault; split; exact .inr fun R k => (by kernel_rfl); exact .inl fun R k => rfl
theorem ok_club_cardsFault [Fuel] : Ok 107 (SS_club_cardsFault (@club_cardsFault _)) := okF_of std (.cons ok_club_CheckCards (.cons ok_kit_IsMoment .nil)) ⟨rfl, rfl, by kernel_rfl, rfl, rfl⟩ (sm_club_cardsFault I_club_cardsFault) (cuts0 (fun _ => rfl) (by kernel_rfl)) Tryz.func107 (by kernel_rfl) (by kernel_rfl)
abbrev T_call_BaseOf : Type 1 := List UInt8 → {R : Type} → (List UInt8 → Option R) → Option R
structure C_call_BaseOf where
  N : Nat
  call_Parts : T_call_Parts
def call_BaseOf_ (g : C_call_BaseOf) (a1 : List UInt8) {R : Type} (k0 : List UInt8 → Option R) : Option R :=
  (g.call_Parts a1 (fun r2 r3 => k0 r2.f_Base))
noncomputable def I_call_BaseOf [Fuel] : C_call_BaseOf := ⟨NN, @call_Parts _⟩
noncomputable def call_BaseOf [Fuel] : T_call_BaseOf := @call_BaseOf_ I_call_BaseOf
def SS_call_BaseOf (g : T_call_BaseOf) : Spec A := fun args => match args with | [.d (.str a1)] => fun k => g a1 (fun z0 => k (.d (.str z0)) [.undef]) | _ => fun _ => none
noncomputable def code_177 : Code := (Tryz.f177.body).getD .skip
noncomputable def E_call_BaseOf (g : C_call_BaseOf) : Env A := mkE [(184, SS_call_Parts g.call_Parts)] [(3, [0])] [] [] [] [] [] [] [] []
theorem sm_call_BaseOf (g : C_call_BaseOf) : Same (SS_call_BaseOf (@call_BaseOf_ g)) (abody (E_call_BaseOf g) Tryz.f177 code_177 1 [] [.asis] g.N) := by intro args; unfold SS_call_BaseOf; split; exact .inr fun R k => (by kernel_rfl); exact .inl fun R k => rfl
theorem ok_call_BaseOf [Fuel] : Ok 177 (SS_call_BaseOf (@call_BaseOf _)) := okF_of std (.cons ok_call_Parts .nil) ⟨rfl, rfl, by kernel_rfl, rfl, rfl⟩ (sm_call_BaseOf I_call_BaseOf) (cuts0 (fun _ => rfl) (by kernel_rfl)) Tryz.func177 (by kernel_rfl) (by kernel_rfl)
abbrev T_club_contactOf : Type 1 := G_Card → {R : Type} → (G_club_contact → Option R) → Option R
structure C_club_contactOf where
  N : Nat
  call_BaseOf : T_call_BaseOf
def club_contactOf_ (g : C_club_contactOf) (a1 : G_Card) {R : Type} (k0 : G_club_contact → Option R) : Option R :=
  (g.call_BaseOf a1.f_Call (fun r2 => k0 (⟨r2, a1.f_Band, a1.f_Mode⟩ : G_club_contact)))
noncomputable def I_club_contactOf [Fuel] : C_club_contactOf := ⟨NN, @call_BaseOf _⟩
noncomputable def club_contactOf [Fuel] : T_club_contactOf := @club_contactOf_ I_club_contactOf
def SS_club_contactOf (g : T_club_contactOf) : Spec A := fun args => match args with | [.agg [.d (.int .i64 a1), .d (.int .i64 a2), .d (.int .i64 a3), .d (.str a4), .d (.str a5)]] => fun k => g ⟨a1, a2, a3, a4, a5⟩ (fun z0 => k (.agg [.d (.str z0.f_base), .d (.str z0.f_band), .d (.int .i64 z0.f_mode)]) [.undef]) | _ => fun _ => none
noncomputable def code_109 : Code := (Tryz.f109.body).getD .skip
noncomputable def E_club_contactOf (g : C_club_contactOf) : Env A := mkE [(177, SS_call_BaseOf g.call_BaseOf)] [(1, [0]), (2, [1])] [] [] [] [] [] [] [] []
theorem sm_club_contactOf (g : C_club_contactOf) : Same (SS_club_contactOf (@club_contactOf_ g)) (abody (E_club_contactOf g) Tryz.f109 code_109 2 [] [.asis] g.N) := by intro args; unfold SS_club_contactOf; split; exact .inr fun R k => (by kernel_rfl); exact .inl fun R k => rfl
theorem ok_club_contactOf [Fuel] : Ok 109 (SS_club_contactOf (@club_contactOf _)) := okF_of std (.cons ok_call_BaseOf .nil) ⟨rfl, rfl, by kernel_rfl, rfl, rfl⟩ (sm_club_contactOf I_club_contactOf) (cuts0 (fun _ => rfl) (by kernel_rfl)) Tryz.func109 (by kernel_rfl) (by kernel_rfl)
abbrev T_club_confirmed : Type 1 := List G_Card → Int → {R : Type} → (List G_Card → Option R) → Option R
structure C_club_confirmed where
  N : Nat
  club_contactOf : T_club_contactOf
def club_confirmed_L4 (g : C_club_confirmed) : Nat → Int → List G_Card → Int → Int → List (G_club_contact × Bool) → List G_Card → {R : Type} → (List G_Card → Option R) → Option R
  | 0, _, _, _, _, _, _, _, _ => none
  | n + 1, v3, v4, v5, v6, v7, v8, _, e0 => (bif (decide (v6 < v5)) then (get_ v4 v6 fun x11 => (g.club_contactOf x11 (fun r12 => (bif (decide (x11.f_At ≤ v3)) then (bif (x11.f_Kind == 2) then (bif (!((mget_club_contact_bool r12 v7).getD false)) then (bif (decide ((v8.length + [x11].length) * 56 ≤ roomBytes')) then club_confirmed_L4 g n v3 v4 v5 (w64 (v6 + 1)) (mset_club_contact_bool r12 true v7) (v8 ++ [x11]) e0 else none) else club_confirmed_L4 g n v3 v4 v5 (w64 (v6 + 1)) v7 v8 e0) else club_confirmed_L4 g n v3 v4 v5 (w64 (v6 + 1)) v7 v8 e0) else club_confirmed_L4 g n v3 v4 v5 (w64 (v6 + 1)) v7 v8 e0)))) else e0 v8)
def club_confirmed_ (g : C_club_confirmed) (a1 : List G_Card) (a2 : Int) {R : Type} (k0 : List G_Card → Option R) : Option R :=
  (club_confirmed_L4 g g.N a2 a1 (a1.length : Int) 0 [] [] (fun e13 => k0 e13))
noncomputable def I_club_confirmed [Fuel] : C_club_confirmed := ⟨NN, @club_contactOf _⟩
noncomputable def club_confirmed [Fuel] : T_club_confirmed := @club_confirmed_ I_club_confirmed
def SS_club_confirmed (g : T_club_confirmed) : Spec A := fun args => match args with | [.d (.sl 66 a1), .d (.int .i64 a2)] => fun k => g a1 a2 (fun z0 => k (.arr 66 z0) [.undef, .undef]) | _ => fun _ => none
def sh_club_confirmed_L4 : SSt := mkSh 42 6 [(1, .int .i64), (5, .mp 0), (6, .own 66 1), (11, .sl 66), (12, .int .i64), (13, .int .i64)] [(0, .mp 131 4), (1, .row 66)]
def LP_club_confirmed_L4 (g : C_club_confirmed) (n : Nat) : LPT A := fun ps => match ps with | [.d (.int .i64 p1), .d (.sl 66 p2), .d (.int .i64 p3), .d (.int .i64 p4), .mp 131 4 p5, .d (.sl 66 p6)] => fun K => club_confirmed_L4 g n p1 p2 p3 p4 p5 p6 (fun z0 => K (.exit 0) (mkSt 42 6 [(6, .own 66 1)] [(1, some (.row 66 z0))])) | _ => fun _ => none
noncomputable def code_108 : Code := (Tryz.f108.body).getD .skip
noncomputable def E_club_confirmed (g : C_club_confirmed) : Env A := mkE [(109, SS_club_contactOf g.club_contactOf)] [(8, [2]), (9, [3]), (10, [0]), (38, [4]), (39, [5])] [(4, ⟨[1, 5, 6, 11, 12, 13], [(6, 66, 1)], [0], []⟩)] [(4, ⟨[6], [], [1], []⟩)] [(4, pieceOf sh_club_confirmed_L4 (LP_club_confirmed_L4 g g.N))] [] [] [] [] []
theorem ct_club_confirmed [Fuel] : NatTab (E_club_confirmed I_club_confirmed).C := ct_of (P := Tryz.prog) (T := T) (.cons ok_club_contactOf .nil) (by kernel_rfl)
noncomputable def cb_club_confirmed_L4 : Code := sub [1, 1, 1, 0, 1, 0, 0] code_108
theorem s_club_confirmed_L4 (g : C_club_confirmed) (n : Nat) : StepOk (E_club_confirmed g) g.N cb_club_confirmed_L4 sh_club_confirmed_L4 (LP_club_confirmed_L4 g) n := by intro ps; unfold LP_club_confirmed_L4; split; exact .inr fun R K => (by kernel_rfl); exact .inl fun R K => rfl
theorem lf_club_confirmed_L4 [Fuel] : LoopFine (E_club_confirmed I_club_confirmed) NN cb_club_confirmed_L4 := fine_loop sh_club_confirmed_L4 (LP_club_confirmed_L4 I_club_confirmed) (by kernel_rfl) ct_club_confirmed (cuts0 (fun _ => rfl) (by kernel_rfl)) (fun ps R K => by unfold LP_club_confirmed_L4; split <;> (try unfold club_confirmed_L4) <;> rfl) (s_club_confirmed_L4 I_club_confirmed)
theorem sm_club_confirmed (g : C_club_confirmed) : Same (SS_club_confirmed (@club_confirmed_ g)) (abody (E_club_confirmed g) Tryz.f108 code_108 6 [] [.arr 66] g.N) := by intro args; unfold SS_club_confirmed; split; exact .inr fun R k => (by kernel_rfl); exact .inl fun R k => rfl
theorem ok_club_confirmed [Fuel] : Ok 108 (SS_club_confirmed (@club_confirmed _)) := okF_of std (.cons ok_club_contactOf .nil) ⟨rfl, rfl, by kernel_rfl, rfl, rfl⟩ (sm_club_confirmed I_club_confirmed) (cutsL (fun _ => rfl) (.cons lf_club_confirmed_L4 .nil) (by kernel_rfl)) Tryz.func108 (by kernel_rfl) (by kernel_rfl)
abbrev T_club_Confirmed : Type 1 := List G_Card → Int → {R : Type} → (List G_Card → Int → Option R) → Option R
structure C_club_Confirmed where
  N : Nat
  club_cardsFault : T_club_cardsFault
  club_confirmed : T_club_confirmed
def club_Confirmed_ (g : C_club_Confirmed) (a1 : List G_Card) (a2 : Int) {R : Type} (k0 : List G_Card → Int → Option R) : Option R :=
  (g.club_cardsFault a1 a2 (fun r3 => (bif (r3 != 0) then k0 [] r3 else (g.club_confirmed a1 a2 (fun r4 => k0 r4 0)))))
noncomputable def I_club_Confirmed [Fuel] : C_club_Confirmed := ⟨NN, @club_cardsFault _, @club_confirmed _⟩
noncomputable def club_Confirmed [Fuel] : T_club_Confirmed := @club_Confirmed_ I_club_Confirmed
def SS_club_Confirmed (g : T_club_Confirmed) : Spec A := fun args => match args with | [.d (.sl 66 a1), .d (.int .i64 a2)] => fun k => g a1 a2 (fun z0 z1 => k (.tup [.arr 66 z0, .d (.int .i64 z1)]) [.undef, .undef]) | _ => fun _ => none
noncomputable def code_28 : Code := (Tryz.f28.body).getD .skip
noncomputable def E_club_Confirmed (g : C_club_Confirmed) : Env A := mkE [(107, SS_club_cardsFault g.club_cardsFault), (108, SS_club_confirmed g.club_confirmed)] [(15, [0])] [] [] [] [] [] [] [] []
theorem sm_club_Confirmed (g : C_club_Confirmed) : Same (SS_club_Confirmed (@club_Confirmed_ g)) (abody (E_club_Confirmed g) Tryz.f28 code_28 1 [] [.arr 66, .asis] g.N) := by intro args; unfold SS_club_Confirmed; split; exact .inr fun R k => (by kernel_rfl); exact .inl fun R k => rfl
theorem ok_club_Confirmed [Fuel] : Ok 28 (SS_club_Confirmed (@club_Confirmed _)) := okF_of std (.cons ok_club_cardsFault (.cons ok_club_confirmed .nil)) ⟨rfl, rfl, by kernel_rfl, rfl, rfl⟩ (sm_club_Confirmed I_club_Confirmed) (cuts0 (fun _ => rfl) (by kernel_rfl)) Tryz.func28 (by kernel_rfl) (by kernel_rfl)
abbrev T_kit_ModeWords : Type 1 := {R : Type} → (List (List UInt8) → Option R) → Option R
def kit_ModeWords_ (g : Nat)  {R : Type} (k0 : List (List UInt8) → Option R) : Option R :=
  k0 [[], [99, 111, 100, 101], [118, 111, 105, 99, 101], [100, 97, 116, 97]]
noncomputable def kit_ModeWords [Fuel] : T_kit_ModeWords := @kit_ModeWords_ NN
def SS_kit_ModeWords (g : T_kit_ModeWords) : Spec A := fun args => match args with | [] => fun k => g (fun z0 => k (.arr 9 z0) []) | _ => fun _ => none
noncomputable def code_110 : Code := (Tryz.f110.body).getD .skip
noncomputable def E_kit_ModeWords (g : Nat) : Env A := mkE [] [(1, [0])] [] [] [] [] [] [] [] []
theorem sm_kit_ModeWords (g : Nat) : Same (SS_kit_ModeWords (@kit_ModeWords_ g)) (abody (E_kit_ModeWords g) Tryz.f110 code_110 1 [] [.arr 9] g) := by intro args; unfold SS_kit_ModeWords; split; exact .inr fun R k => (by kernel_rfl); exact .inl fun R k => rfl
theorem ok_kit_ModeWords [Fuel] : Ok 110 (SS_kit_ModeWords (@kit_ModeWords _)) := okF_of std .nil ⟨rfl, rfl, by kernel_rfl, rfl, rfl⟩ (sm_kit_ModeWords NN) (cuts0 (fun _ => rfl) (by kernel_rfl)) Tryz.func110 (by kernel_rfl) (by kernel_rfl)
abbrev T_club_Owed_1 : Type 1 := G_Pair → G_Pair → {R : Type} → (Int → Option R) → Option R
structure C_club_Owed_1 where
  N : Nat
  cmp_Or__int : T_cmp_Or__int
  strings_Compare : T_strings_Compare
def club_Owed_1_ (g : C_club_Owed_1) (a1 a2 : G_Pair) {R : Type} (k0 : Int → Option R) : Option R :=
  (g.strings_Compare a1.f_Name a2.f_Name (fun r3 => (g.strings_Compare a1.f_Value a2.f_Value (fun r4 => (g.cmp_Or__int [r3, r4] (fun r5 => k0 r5))))))
noncomputable def I_club_Owed_1 [Fuel] : C_club_Owed_1 := ⟨NN, @cmp_Or__int _, @strings_Compare _⟩
noncomputable def club_Owed_1 [Fuel] : T_club_Owed_1 := @club_Owed_1_ I_club_Owed_1
def SS_club_Owed_1 (g : T_club_Owed_1) : Spec A := fun args => match args with | [.agg [.d (.str a1), .d (.str a2)], .agg [.d (.str a3), .d (.str a4)]] => fun k => g ⟨a1, a2⟩ ⟨a3, a4⟩ (fun z0 => k (.d (.int .i64 z0)) [.undef, .undef]) | _ => fun _ => none
noncomputable def code_112 : Code := (Tryz.f112.body).getD .skip
noncomputable def E_club_Owed_1 (g : C_club_Owed_1) : Env A := mkE [(113, SS_cmp_Or__int g.cmp_Or__int), (114, SS_strings_Compare g.strings_Compare)] [(2, [0]), (3, [1]), (15, [2])] [] [] [] [] [] [] [] []
theorem sm_club_Owed_1 (g : C_club_Owed_1) : Same (SS_club_Owed_1 (@club_Owed_1_ g)) (abody (E_club_Owed_1 g) Tryz.f112 code_112 3 [] [.asis] g.N) := by intro args; unfold SS_club_Owed_1; split; exact .inr fun R k => (by kernel_rfl); exact .inl fun R k => rfl
theorem ok_club_Owed_1 [Fuel] : Ok 112 (SS_club_Owed_1 (@club_Owed_1 _)) := okF_of std (.cons ok_cmp_Or__int (.cons ok_strings_Compare .nil)) ⟨rfl, rfl, by kernel_rfl, rfl, rfl⟩ (sm_club_Owed_1 I_club_Owed_1) (cuts0 (fun _ => rfl) (by kernel_rfl)) Tryz.func112 (by kernel_rfl) (by kernel_rfl)
noncomputable def Ed_club_Owed_1 (g : C_club_Owed_1) : Env A := mkED [(113, SS_cmp_Or__int g.cmp_Or__int), (114, SS_strings_Compare g.strings_Compare)] [(2, [0]), (3, [1]), (15, [2])] [] [] [] [] [] [] [] []
theorem smd_club_Owed_1 (g : C_club_Owed_1) : Same (SS_club_Owed_1 (@club_Owed_1_ g)) (abody (Ed_club_Owed_1 g) Tryz.f112 code_112 3 [] [.asis] g.N) := by intro args; unfold SS_club_Owed_1; split; exact .inr fun R k => (by kernel_rfl); exact .inl fun R k => rfl
theorem okd_club_Owed_1 [Fuel] : OkD 112 (SS_club_Owed_1 (@club_Owed_1 _)) := okF_of stdD (.cons okd_cmp_Or__int (.cons okd_strings_Compare .nil)) ⟨rfl, rfl, by kernel_rfl, rfl, rfl⟩ (smd_club_Owed_1 I_club_Owed_1) (cuts0 (fun _ => rfl) (by kernel_rfl)) Tryz.func112 (by kernel_rfl) (by kernel_rfl)
abbrev T_slices_SortFunc__Pair_club_Owed_1 : Type 1 := List G_Pair → {R : Type} → (List G_Pair → Option R) → Option R
noncomputable def slices_SortFunc__Pair_club_Owed_1 [Fuel] : T_slices_SortFunc__Pair_club_Owed_1 := @X_sortf G_Pair (@club_Owed_1 _)
def SS_slices_SortFunc__Pair_club_Owed_1 (g : T_slices_SortFunc__Pair_club_Owed_1) : Spec A := fun args => match args with | [.arr 69 a1, .fn 112 []] => fun k => g a1 (fun z => k (.tup []) [.arr 69 z, .fn 112 []]) | _ => fun _ => none
theorem h1_slices_SortFunc__Pair_club_Owed_1 [Fuel] (xs : List (A 69)) (R : Type) (k : IV A → List (IV A) → Option R) : SS_slices_SortFunc__Pair_club_Owed_1 (@slices_SortFunc__Pair_club_Owed_1 _) [.arr 69 xs, .fn 112 []] k = X_sortf (α := A 69) (@club_Owed_1 _) xs (fun z => k (.tup []) [.arr 69 z, .fn 112 []]) := by kernel_rfl
theorem h2_slices_SortFunc__Pair_club_Owed_1 [Fuel] (args : List (IV A)) (R : Type) (k : IV A → List (IV A) → Option R) (h : ∀ xs : List (A 69), args ≠ [.arr 69 xs, .fn 112 []]) : SS_slices_SortFunc__Pair_club_Owed_1 (@slices_SortFunc__Pair_club_Owed_1 _) args k = none := by unfold SS_slices_SortFunc__Pair_club_Owed_1; split; exact absurd rfl (h _); rfl
theorem hc_slices_SortFunc__Pair_club_Owed_1 [Fuel] (x y : A 69) (R : Type) (k : Int → Option R) : callOf T (SS_club_Owed_1 (@club_Owed_1 _)) 69 x y k = @club_Owed_1 _ x y R k := by kernel_rfl
theorem hs_slices_SortFunc__Pair_club_Owed_1 (x : G_Pair) : (enc_e69 x).all scal = true := rfl
theorem ok_slices_SortFunc__Pair_club_Owed_1 [Fuel] : Ok 111 (SS_slices_SortFunc__Pair_club_Owed_1 (@slices_SortFunc__Pair_club_Owed_1 _)) := ⟨sortf_sound (tyOk Tryz.prog) (e := 69) Tryz.sortf111 Tryz.isAgg69 Tryz.sizeOf69 (fun x d hd => List.all_eq_true.1 (hs_slices_SortFunc__Pair_club_Owed_1 x) d hd) hc_slices_SortFunc__Pair_club_Owed_1 okd_club_Owed_1.fs okd_club_Owed_1.en h1_slices_SortFunc__Pair_club_Owed_1 h2_slices_SortFunc__Pair_club_Owed_1, sortf_na (e := 69) h1_slices_SortFunc__Pair_club_Owed_1 h2_slices_SortFunc__Pair_club_Owed_1, enters_of (fn := Tryz.f111) Tryz.func111 (by kernel_rfl) (by kernel_rfl)⟩
abbrev T_club_Owed : Type 1 := List G_Card → Int → {R : Type} → (List G_Pair → Int → Option R) → Option R
structure C_club_Owed where
  N : Nat
  club_cardsFault : T_club_cardsFault
  club_confirmed : T_club_confirmed
  club_contactOf : T_club_contactOf
  kit_ModeWords : T_kit_ModeWords
  slices_SortFunc__Pair_club_Owed_1 : T_slices_SortFunc__Pair_club_Owed_1
def club_Owed_L6 (g : C_club_Owed) : Nat → List G_Card → Int → List G_Card → Int → Int → List (G_club_contact × Bool) → {R : Type} → (List G_Card → Int → List (G_club_contact × Bool) → Option R) → Option R
  | 0, _, _, _, _, _, _, _, _ => none
  | n + 1, v4, v5, v6, v7, v8, v9, _, e0 => (bif (decide (v8 < v7)) then (get_ v6 v8 fun x13 => (bif (decide (x13.f_At > v5)) then club_Owed_L6 g n v4 v5 v6 v7 (w64 (v8 + 1)) v9 e0 else (bif (x13.f_Kind == 1) then (g.club_contactOf x13 (fun r14 => club_Owed_L6 g n v4 v5 v6 v7 (w64 (v8 + 1)) (mset_club_contact_bool r14 true v9) e0)) else (bif (x13.f_Kind == 3) then (g.club_contactOf x13 (fun r15 => club_Owed_L6 g n v4 v5 v6 v7 (w64 (v8 + 1)) (mset_club_contact_bool r15 false v9) e0)) else club_Owed_L6 g n v4 v5 v6 v7 (w64 (v8 + 1)) v9 e0)))) else e0 v4 v5 v9)
def club_Owed_L16 (g : C_club_Owed) : Nat → Int → Int → List (G_club_contact × Bool) → List G_Card → List G_Pair → {R : Type} → (List G_Pair → Option R) → Option R
  | 0, _, _, _, _, _, _, _ => none
  | n + 1, v20, v21, v22, v23, v24, _, e0 => (bif (decide (v21 < v20)) then (inr v23 v21 (at_ v23 v21 fun x29 => (g.club_contactOf x29 (fun r30 => (bif (!((mget_club_contact_bool r30 v22).getD false)) then (bif (strOk r30.f_band [32]) then (g.kit_ModeWords (fun r31 => (inr r31 r30.f_mode (at_ r31 r30.f_mode fun x32 => (bif (strOk (r30.f_band ++ [32]) x32) then (bif (decide ((v24.length + [(⟨r30.f_base, ((r30.f_band ++ [32]) ++ x32)⟩ : G_Pair)].length) * 32 ≤ roomBytes')) then club_Owed_L16 g n v20 (w64 (v21 + 1)) v22 v23 (v24 ++ [(⟨r30.f_base, ((r30.f_band ++ [32]) ++ x32)⟩ : G_Pair)]) e0 else none) else none))))) else none) else club_Owed_L16 g n v20 (w64 (v21 + 1)) v22 v23 v24 e0))))) else e0 v24)
def club_Owed_ (g : C_club_Owed) (a1 : List G_Card) (a2 : Int) {R : Type} (k0 : List G_Pair → Int → Option R) : Option R :=
  (g.club_cardsFault a1 a2 (fun r3 => (bif (r3 != 0) then k0 [] r3 else (club_Owed_L6 g g.N a1 a2 a1 (a1.length : Int) 0 [] (fun e16 e17 e18 => (g.club_confirmed e16 e17 (fun r19 => (club_Owed_L16 g g.N (r19.length : Int) 0 e18 r19 [] (fun e33 => (g.slices_SortFunc__Pair_club_Owed_1 e33 (fun r34 => k0 r34 0)))))))))))
noncomputable def I_club_Owed [Fuel] : C_club_Owed := ⟨NN, @club_cardsFault _, @club_confirmed _, @club_contactOf _, @kit_ModeWords _, @slices_SortFunc__Pair_club_Owed_1 _⟩
noncomputable def club_Owed [Fuel] : T_club_Owed := @club_Owed_ I_club_Owed
def SS_club_Owed (g : T_club_Owed) : Spec A := fun args => match args with | [.d (.sl 66 a1), .d (.int .i64 a2)] => fun k => g a1 a2 (fun z0 z1 => k (.tup [.arr 69 z0, .d (.int .i64 z1)]) [.undef, .undef]) | _ => fun _ => none
def sh_club_Owed_L6 : SSt := mkSh 80 9 [(0, .sl 66), (1, .int .i64), (7, .mp 0), (21, .sl 66), (22, .int .i64), (23, .int .i64)] [(0, .mp 131 4)]
def LP_club_Owed_L6 (g : C_club_Owed) (n : Nat) : LPT A := fun ps => match ps with | [.d (.sl 66 p1), .d (.int .i64 p2), .d (.sl 66 p3), .d (.int .i64 p4), .d (.int .i64 p5), .mp 131 4 p6] => fun K => club_Owed_L6 g n p1 p2 p3 p4 p5 p6 (fun z0 z1 z2 => K (.exit 0) (mkSt 80 9 [(0, .d (.sl 66 z0)), (1, .d (.int .i64 z1)), (7, .mp 0)] [(0, some (.mp 131 4 z2))])) | _ => fun _ => none
def sh_club_Owed_L16 : SSt := mkSh 80 9 [(7, .mp 0), (10, .own 69 3), (49, .own 66 2), (50, .int .i64), (51, .int .i64)] [(0, .mp 131 4), (2, .row 66), (3, .row 69)]
def LP_club_Owed_L16 (g : C_club_Owed) (n : Nat) : LPT A := fun ps => match ps with | [.d (.int .i64 p1), .d (.int .i64 p2), .mp 131 4 p3, .d (.sl 66 p4), .d (.sl 69 p5)] => fun K => club_Owed_L16 g n p1 p2 p3 p4 p5 (fun z0 => K (.exit 3) (mkSt 80 9 [(10, .own 69 3)] [(3, some (.row 69 z0))])) | _ => fun _ => none
noncomputable def code_29 : Code := (Tryz.f29.body).getD .skip
noncomputable def E_club_Owed (g : C_club_Owed) : Env A := mkE [(107, SS_club_cardsFault g.club_cardsFault), (108, SS_club_confirmed g.club_confirmed), (109, SS_club_contactOf g.club_contactOf), (110, SS_kit_ModeWords g.kit_ModeWords), (111, SS_slices_SortFunc__Pair_club_Owed_1 g.slices_SortFunc__Pair_club_Owed_1)] [(9, [1]), (12, [4]), (13, [5]), (20, [0]), (49, [2]), (67, [6]), (74, [7]), (75, [8])] [(6, ⟨[0, 1, 7, 21, 22, 23], [], [0], []⟩), (16, ⟨[7, 10, 49, 50, 51], [(10, 69, 3)], [0, 2], []⟩)] [(6, ⟨[0, 1, 7], [], [0], []⟩), (16, ⟨[10], [], [3], []⟩)] [(6, pieceOf sh_club_Owed_L6 (LP_club_Owed_L6 g g.N)), (16, pieceOf sh_club_Owed_L16 (LP_club_Owed_L16 g g.N))] [] [] [] [(111, 0)] []
theorem ct_club_Owed [Fuel] : NatTab (E_club_Owed I_club_Owed).C := ct_of (P := Tryz.prog) (T := T) (.cons ok_club_cardsFault (.cons ok_club_confirmed (.cons ok_club_contactOf (.cons ok_kit_ModeWords (.cons ok_slices_SortFunc__Pair_club_Owed_1 .nil))))) (by kernel_rfl)
noncomputable def cb_club_Owed_L6 : Code := sub [1, 1, 1, 0, 1, 0, 0] code_29
theorem s_club_Owed_L6 (g : C_club_Owed) (n : Nat) : StepOk (E_club_Owed g) g.N cb_club_Owed_L6 sh_club_Owed_L6 (LP_club_Owed_L6 g) n := by intro ps; unfold LP_club_Owed_L6; split; exact .inr fun R K => (by kernel_rfl); exact .inl fun R K => rfl
theorem lf_club_Owed_L6 [Fuel] : LoopFine (E_club_Owed I_club_Owed) NN cb_club_Owed_L6 := fine_loop sh_club_Owed_L6 (LP_club_Owed_L6 I_club_Owed) (by kernel_rfl) ct_club_Owed (cuts0 (fun _ => rfl) (by kernel_rfl)) (fun ps R K => by unfold LP_club_Owed_L6; split <;> (try unfold club_Owed_L6) <;> rfl) (s_club_Owed_L6 I_club_Owed)
noncomputable def cb_club_Owed_L16 : Code := sub [1, 1, 1, 1, 1, 0, 1, 0, 0] code_29
theorem s_club_Owed_L16 (g : C_club_Owed) (n : Nat) : StepOk (E_club_Owed g) g.N cb_club_Owed_L16 sh_club_Owed_L16 (LP_club_Owed_L16 g) n := by intro ps; unfold LP_club_Owed_L16; split; exact .inr fun R K => (by kernel_rfl); exact .inl fun R K => rfl
theorem lf_club_Owed_L16 [Fuel] : LoopFine (E_club_Owed I_club_Owed) NN cb_club_Owed_L16 := fine_loop sh_club_Owed_L16 (LP_club_Owed_L16 I_club_Owed) (by kernel_rfl) ct_club_Owed (cuts0 (fun _ => rfl) (by kernel_rfl)) (fun ps R K => by unfold LP_club_Owed_L16; split <;> (try unfold club_Owed_L16) <;> rfl) (s_club_Owed_L16 I_club_Owed)
theorem sm_club_Owed (g : C_club_Owed) : Same (SS_club_Owed (@club_Owed_ g)) (abody (E_club_Owed g) Tryz.f29 code_29 9 [] [.arr 69, .asis] g.N) := by intro args; unfold SS_club_Owed; split; exact .inr fun R k => (by kernel_rfl); exact .inl fun R k => rfl
theorem ok_club_Owed [Fuel] : Ok 29 (SS_club_Owed (@club_Owed _)) := okF_of std (.cons ok_club_cardsFault (.cons ok_club_confirmed (.cons ok_club_contactOf (.cons ok_kit_ModeWords (.cons ok_slices_SortFunc__Pair_club_Owed_1 .nil))))) ⟨rfl, rfl, by kernel_rfl, rfl, rfl⟩ (sm_club_Owed I_club_Owed) (cutsL (fun _ => rfl) (.cons lf_club_Owed_L6 (.cons lf_club_Owed_L16 .nil)) (by kernel_rfl)) Tryz.func29 (by kernel_rfl) (by kernel_rfl)
abbrev T_Q_in : Type 1 := Int → Int → Int → {R : Type} → (Bool → Option R) → Option R
def Q_in_ (g : Nat) (a1 a2 a3 : Int) {R : Type} (k0 : Bool → Option R) : Option R :=
  (bif (decide (a2 ≤ a1)) then k0 (decide (a1 ≤ a3)) else k0 false)
noncomputable def Q_in [Fuel] : T_Q_in := @Q_in_ NN
def SS_Q_in (g : T_Q_in) : Spec A := fun args => match args with | [.d (.int .i64 a1), .d (.int .i64 a2), .d (.int .i64 a3)] => fun k => g a1 a2 a3 (fun z0 => k (.d (.bool z0)) [.undef, .undef, .undef]) | _ => fun _ => none
noncomputable def code_86 : Code := (Tryz.f86.body).getD .skip
noncomputable def E_Q_in (g : Nat) : Env A := mkE [] [] [] [] [] [] [] [] [] []
theorem sm_Q_in (g : Nat) : Same (SS_Q_in (@Q_in_ g)) (abody (E_Q_in g) Tryz.f86 code_86 0 [] [.asis] g) := by intro args; unfold SS_Q_in; split; exact .inr fun R k => (by kernel_rfl); exact .inl fun R k => rfl
theorem ok_Q_in [Fuel] : Ok 86 (SS_Q_in (@Q_in _)) := okF_of std .nil ⟨rfl, rfl, by kernel_rfl, rfl, rfl⟩ (sm_Q_in NN) (cuts0 (fun _ => rfl) (by kernel_rfl)) Tryz.func86 (by kernel_rfl) (by kernel_rfl)
abbrev T_Q_Moment : Type 1 := Int → {R : Type} → (Bool → Option R) → Option R
structure C_Q_Moment where
  N : Nat
  Q_in : T_Q_in
def Q_Moment_ (g : C_Q_Moment) (a1 : Int) {R : Type} (k0 : Bool → Option R) : Option R :=
  (g.Q_in a1 0 345686399999 (fun r2 => k0 r2))
noncomputable def I_Q_Moment [Fuel] : C_Q_Moment := ⟨NN, @Q_in _⟩
noncomputable def Q_Moment [Fuel] : T_Q_Moment := @Q_Moment_ I_Q_Moment
def SS_Q_Moment (g : T_Q_Moment) : Spec A := fun args => match args with | [.d (.int .i64 a1)] => fun k => g a1 (fun z0 => k (.d (.bool z0)) [.undef]) | _ => fun _ => none
noncomputable def code_115 : Code := (Tryz.f115.body).getD .skip
noncomputable def E_Q_Moment (g : C_Q_Moment) : Env A := mkE [(86, SS_Q_in g.Q_in)] [] [] [] [] [] [] [] [] []
theorem sm_Q_Moment (g : C_Q_Moment) : Same (SS_Q_Moment (@Q_Moment_ g)) (abody (E_Q_Moment g) Tryz.f115 code_115 0 [] [.asis] g.N) := by intro args; unfold SS_Q_Moment; split; exact .inr fun R k => (by kernel_rfl); exact .inl fun R k => rfl
theorem ok_Q_Moment [Fuel] : Ok 115 (SS_Q_Moment (@Q_Moment _)) := okF_of std (.cons ok_Q_in .nil) ⟨rfl, rfl, by kernel_rfl, rfl, rfl⟩ (sm_Q_Moment I_Q_Moment) (cuts0 (fun _ => rfl) (by kernel_rfl)) Tryz.func115 (by kernel_rfl) (by kernel_rfl)
abbrev T_R_in : Type 1 := Int → Int → Int → {R : Type} → (Bool → Option R) → Option R
def R_in_ (g : Nat) (a1 a2 a3 : Int) {R : Type} (k0 : Bool → Option R) : Option R :=
  (bif (decide (a2 ≤ a1)) then k0 (decide (a1 ≤ a3)) else k0 false)
noncomputable def R_in [Fuel] : T_R_in := @R_in_ NN
def SS_R_in (g : T_R_in) : Spec A := fun args => match args with | [.d (.int .i64 a1), .d (.int .i64 a2), .d (.int .i64 a3)] => fun k => g a1 a2 a3 (fun z0 => k (.d (.bool z0)) [.undef, .undef, .undef]) | _ => fun _ => none
noncomputable def code_309 : Code := (Tryz.f309.body).getD .skip
noncomputable def E_R_in (g : Nat) : Env A := mkE [] [] [] [] [] [] [] [] [] []
theorem sm_R_in (g : Nat) : Same (SS_R_in (@R_in_ g)) (abody (E_R_in g) Tryz.f309 code_309 0 [] [.asis] g) := by intro args; unfold SS_R_in; split; exact .inr fun R k => (by kernel_rfl); exact .inl fun R k => rfl
theorem ok_R_in [Fuel] : Ok 309 (SS_R_in (@R_in _)) := okF_of std .nil ⟨rfl, rfl, by kernel_rfl, rfl, rfl⟩ (sm_R_in NN) (cuts0 (fun _ => rfl) (by kernel_rfl)) Tryz.func309 (by kernel_rfl) (by kernel_rfl)
abbrev T_strings_ContainsAny : Type 1 := List UInt8 → List UInt8 → {R : Type} → (Bool → Option R) → Option R
def strings_ContainsAny [Fuel] : T_strings_ContainsAny := @X_cany
def SS_strings_ContainsAny (g : T_strings_ContainsAny) : Spec A := SSX_cany g
theorem ok_strings_ContainsAny [Fuel] : Ok 310 (SS_strings_ContainsAny (@strings_ContainsAny _)) := ⟨ssx_cany_sound (cany_sound rfl (fun s cs w h1 h2 h3 h4 => Any.strings_ContainsAny_laid Tryz.lays150 (by kernel_rfl) s cs w h1 h2 h3 h4)), ssx_cany_nat, enters_of (fn := Tryz.f310) Tryz.func310 (by kernel_rfl) (by kernel_rfl)⟩
abbrev T_R_plain : Type 1 := List UInt8 → Int → Int → {R : Type} → (Bool → Option R) → Option R
structure C_R_plain where
  N : Nat
  strings_Trim : T_strings_Trim
  R_in : T_R_in
  strings_ContainsAny : T_strings_ContainsAny
def R_plain_ (g : C_R_plain) (a1 : List UInt8) (a2 a3 : Int) {R : Type} (k0 : Bool → Option R) : Option R :=
  (g.R_in (a1.length : Int) a2 a3 (fun r4 => (bif r4 then (g.strings_Trim a1 [97, 98, 99, 100, 101, 102, 103, 104, 105, 106, 107, 108, 109, 110, 111, 112, 113, 114, 115, 116, 117, 118, 119, 120, 121, 122, 48, 49, 50, 51, 52, 53, 54, 55, 56, 57] (fun r5 => (bif (r5 == []) then (g.strings_ContainsAny a1 [97, 98, 99, 100, 101, 102, 103, 104, 105, 106, 107, 108, 109, 110, 111, 112, 113, 114, 115, 116, 117, 118, 119, 120, 121, 122] (fun r6 => k0 r6)) else k0 false))) else k0 false)))
noncomputable def I_R_plain [Fuel] : C_R_plain := ⟨NN, @strings_Trim _, @R_in _, @strings_ContainsAny _⟩
noncomputable def R_plain [Fuel] : T_R_plain := @R_plain_ I_R_plain
def SS_R_plain (g : T_R_plain) : Spec A := fun args => match args with | [.d (.str a1), .d (.int .i64 a2), .d (.int .i64 a3)] => fun k => g a1 a2 a3 (fun z0 => k (.d (.bool z0)) [.undef, .undef, .undef]) | _ => fun _ => none
noncomputable def code_308 : Code := (Tryz.f308.body).getD .skip
noncomputable def E_R_plain (g : C_R_plain) : Env A := mkE [(186, SS_strings_Trim g.strings_Trim), (309, SS_R_in g.R_in), (310, SS_strings_ContainsAny g.strings_ContainsAny)] [] [] [] [] [] [] [] [] []
theorem sm_R_plain (g : C_R_plain) : Same (SS_R_plain (@R_plain_ g)) (abody (E_R_plain g) Tryz.f308 code_308 0 [] [.asis] g.N) := by intro args; unfold SS_R_plain; split; exact .inr fun R k => (by kernel_rfl); exact .inl fun R k => rfl
theorem ok_R_plain [Fuel] : Ok 308 (SS_R_plain (@R_plain _)) := okF_of std (.cons ok_strings_Trim (.cons ok_R_in (.cons ok_strings_ContainsAny .nil))) ⟨rfl, rfl, by kernel_rfl, rfl, rfl⟩ (sm_R_plain I_R_plain) (cuts0 (fun _ => rfl) (by kernel_rfl)) Tryz.func308 (by kernel_rfl) (by kernel_rfl)
abbrev T_R_baseAt : Type 1 := List UInt8 → {R : Type} → (Int → Option R) → Option R
structure C_R_baseAt where
  N : Nat
  strings_LastIndexAny : T_strings_LastIndexAny
  R_plain : T_R_plain
  R_in : T_R_in
  strings_ContainsAny : T_strings_ContainsAny
def R_baseAt_ (g : C_R_baseAt) (a1 : List UInt8) {R : Type} (k0 : Int → Option R) : Option R :=
  (g.strings_LastIndexAny a1 [48, 49, 50, 51, 52, 53, 54, 55, 56, 57] (fun r2 => (g.R_plain a1 3 10 (fun r3 => (bif (!r3) then k0 (-1) else (g.R_in r2 1 3 (fun r4 => (bif (!r4) then k0 (-1) else (g.R_in (w64 ((w64 ((a1.length : Int) - 1)) - r2)) 1 4 (fun r5 => (bif (!r5) then k0 (-1) else (bif (decide (0 ≤ r2) && decide (r2 ≤ (a1.length : Int))) then (g.strings_ContainsAny (a1.take (r2 : Int).toNat) [97, 98, 99, 100, 101, 102, 103, 104, 105, 106, 107, 108, 109, 110, 111, 112, 113, 114, 115, 116, 117, 118, 119, 120, 121, 122] (fun r6 => (bif (!r6) then k0 (-1) else k0 r2))) else none))))))))))))
noncomputable def I_R_baseAt [Fuel] : C_R_baseAt := ⟨NN, @strings_LastIndexAny _, @R_plain _, @R_in _, @strings_ContainsAny _⟩
noncomputable def R_baseAt [Fuel] : T_R_baseAt := @R_baseAt_ I_R_baseAt
def SS_R_baseAt (g : T_R_baseAt) : Spec A := fun args => match args with | [.d (.str a1)] => fun k => g a1 (fun z0 => k (.d (.int .i64 z0)) [.undef]) | _ => fun _ => none
noncomputable def code_250 : Code := (Tryz.f250.body).getD .skip
noncomputable def E_R_baseAt (g : C_R_baseAt) : Env A := mkE [(307, SS_strings_LastIndexAny g.strings_LastIndexAny), (308, SS_R_plain g.R_plain), (309, SS_R_in g.R_in), (310, SS_strings_ContainsAny g.strings_ContainsAny)] [] [] [] [] [] [] [] [] []
theorem sm_R_baseAt (g : C_R_baseAt) : Same (SS_R_baseAt (@R_baseAt_ g)) (abody (E_R_baseAt g) Tryz.f250 code_250 0 [] [.asis] g.N) := by intro args; unfold SS_R_baseAt; split; exact .inr fun R k => (by kernel_rfl); exact .inl fun R k => rfl
theorem ok_R_baseAt [Fuel] : Ok 250 (SS_R_baseAt (@R_baseAt _)) := okF_of std (.cons ok_strings_LastIndexAny (.cons ok_R_plain (.cons ok_R_in (.cons ok_strings_ContainsAny .nil)))) ⟨rfl, rfl, by kernel_rfl, rfl, rfl⟩ (sm_R_baseAt I_R_baseAt) (cuts0 (fun _ => rfl) (by kernel_rfl)) Tryz.func250 (by kernel_rfl) (by kernel_rfl)
abbrev T_R_PartsOf_1 : Type 1 := List UInt8 → {R : Type} → (G_Parts → Option R) → Option R
structure C_R_PartsOf_1 where
  N : Nat
  R_baseAt : T_R_baseAt
def R_PartsOf_1_ (g : C_R_PartsOf_1) (a1 : List UInt8) {R : Type} (k0 : G_Parts → Option R) : Option R :=
  (g.R_baseAt a1 (fun r2 => (bif (decide (0 ≤ (w64 (r2 + 1))) && decide ((w64 (r2 + 1)) ≤ (a1.length : Int))) then (bif (decide (0 ≤ (w64 (r2 + 1))) && decide ((w64 (r2 + 1)) ≤ (a1.length : Int))) then k0 (⟨a1, (a1.take ((w64 (r2 + 1)) : Int).toNat), (a1.drop ((w64 (r2 + 1)) : Int).toNat), 0, []⟩ : G_Parts) else none) else none)))
noncomputable def I_R_PartsOf_1 [Fuel] : C_R_PartsOf_1 := ⟨NN, @R_baseAt _⟩
noncomputable def R_PartsOf_1 [Fuel] : T_R_PartsOf_1 := @R_PartsOf_1_ I_R_PartsOf_1
def SS_R_PartsOf_1 (g : T_R_PartsOf_1) : Spec A := fun args => match args with | [.d (.str a1)] => fun k => g a1 (fun z0 => k (.agg [.d (.str z0.f_Base), .d (.str z0.f_Prefix), .d (.str z0.f_Suffix), .d (.int .i64 z0.f_Kind), .d (.str z0.f_Added)]) [.undef]) | _ => fun _ => none
noncomputable def code_249 : Code := (Tryz.f249.body).getD .skip
noncomputable def E_R_PartsOf_1 (g : C_R_PartsOf_1) : Env A := mkE [(250, SS_R_baseAt g.R_baseAt)] [(2, [0])] [] [] [] [] [] [] [] []
theorem sm_R_PartsOf_1 (g : C_R_PartsOf_1) : Same (SS_R_PartsOf_1 (@R_PartsOf_1_ g)) (abody (E_R_PartsOf_1 g) Tryz.f249 code_249 1 [] [.asis] g.N) := by intro args; unfold SS_R_PartsOf_1; split; exact .inr fun R k => (by kernel_rfl); exact .inl fun R k => rfl
theorem ok_R_PartsOf_1 [Fuel] : Ok 249 (SS_R_PartsOf_1 (@R_PartsOf_1 _)) := okF_of std (.cons ok_R_baseAt .nil) ⟨rfl, rfl, by kernel_rfl, rfl, rfl⟩ (sm_R_PartsOf_1 I_R_PartsOf_1) (cuts0 (fun _ => rfl) (by kernel_rfl)) Tryz.func249 (by kernel_rfl) (by kernel_rfl)
abbrev T_R_begin : Type 1 := List UInt8 → {R : Type} → (Bool → Option R) → Option R
structure C_R_begin where
  N : Nat
  R_plain : T_R_plain
def R_begin_ (g : C_R_begin) (a1 : List UInt8) {R : Type} (k0 : Bool → Option R) : Option R :=
  (g.R_plain a1 1 4 (fun r2 => k0 r2))
noncomputable def I_R_begin [Fuel] : C_R_begin := ⟨NN, @R_plain _⟩
noncomputable def R_begin [Fuel] : T_R_begin := @R_begin_ I_R_begin
def SS_R_begin (g : T_R_begin) : Spec A := fun args => match args with | [.d (.str a1)] => fun k => g a1 (fun z0 => k (.d (.bool z0)) [.undef]) | _ => fun _ => none
noncomputable def code_251 : Code := (Tryz.f251.body).getD .skip
noncomputable def E_R_begin (g : C_R_begin) : Env A := mkE [(308, SS_R_plain g.R_plain)] [] [] [] [] [] [] [] [] []
theorem sm_R_begin (g : C_R_begin) : Same (SS_R_begin (@R_begin_ g)) (abody (E_R_begin g) Tryz.f251 code_251 0 [] [.asis] g.N) := by intro args; unfold SS_R_begin; split; exact .inr fun R k => (by kernel_rfl); exact .inl fun R k => rfl
theorem ok_R_begin [Fuel] : Ok 251 (SS_R_begin (@R_begin _)) := okF_of std (.cons ok_R_plain .nil) ⟨rfl, rfl, by kernel_rfl, rfl, rfl⟩ (sm_R_begin I_R_begin) (cuts0 (fun _ => rfl) (by kernel_rfl)) Tryz.func251 (by kernel_rfl) (by kernel_rfl)
abbrev T_strings_Index : Type 1 := List UInt8 → List UInt8 → {R : Type} → (Int → Option R) → Option R
structure C_strings_Index where
  N : Nat
  stringslite_Index : T_stringslite_Index
def strings_Index_ (g : C_strings_Index) (a1 a2 : List UInt8) {R : Type} (k0 : Int → Option R) : Option R :=
  (g.stringslite_Index a1 a2 (fun r3 => k0 r3))
noncomputable def I_strings_Index [Fuel] : C_strings_Index := ⟨NN, @stringslite_Index _⟩
noncomputable def strings_Index [Fuel] : T_strings_Index := @strings_Index_ I_strings_Index
def SS_strings_Index (g : T_strings_Index) : Spec A := fun args => match args with | [.d (.str a1), .d (.str a2)] => fun k => g a1 a2 (fun z0 => k (.d (.int .i64 z0)) [.undef, .undef]) | _ => fun _ => none
noncomputable def code_311 : Code := (Tryz.f311.body).getD .skip
noncomputable def E_strings_Index (g : C_strings_Index) : Env A := mkE [(345, SS_stringslite_Index g.stringslite_Index)] [] [] [] [] [] [] [] [] []
theorem sm_strings_Index (g : C_strings_Index) : Same (SS_strings_Index (@strings_Index_ g)) (abody (E_strings_Index g) Tryz.f311 code_311 0 [] [.asis] g.N) := by intro args; unfold SS_strings_Index; split; exact .inr fun R k => (by kernel_rfl); exact .inl fun R k => rfl
theorem ok_strings_Index [Fuel] : Ok 311 (SS_strings_Index (@strings_Index _)) := okF_of std (.cons ok_stringslite_Index .nil) ⟨rfl, rfl, by kernel_rfl, rfl, rfl⟩ (sm_strings_Index I_strings_Index) (cuts0 (fun _ => rfl) (by kernel_rfl)) Tryz.func311 (by kernel_rfl) (by kernel_rfl)
end Go.Am
