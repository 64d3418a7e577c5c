/- The functions of the program as Lean functions, each shown to be what the code computes, part 7. No condition: lemmas for the claim. -/
import Derived.Test.YtoajjnhmofegcaaGreatDoorF0
import Derived.Test.YtoajjnhmofegcaaGreatDoorFSh
import Derived.Test.YtoajjnhmofegcaaGreatDoorF1
import Derived.Test.YtoajjnhmofegcaaGreatDoorF4
import Derived.Test.YtoajjnhmofegcaaGreatDoorF6
set_option linter.unusedVariables false
set_option maxRecDepth 100000
namespace Go.Am
open Go Go.Proofs
abbrev T_kit_IsTime : Type 1 := G_Window → {R : Type} → (Bool → Option R) → Option R
def kit_IsTime_ (g : Nat) (a1 : G_Window) {R : Type} (k0 : Bool → Option R) : Option R :=
 (bif (decide (a1.f_From ≥ 0)) then (bif (decide (a1.f_From < a1.f_To)) then k0 (decide (a1.f_To ≤ 345686400000)) else k0 false) else k0 false)
noncomputable def kit_IsTime [Fuel] : T_kit_IsTime := @kit_IsTime_ NN
def SS_kit_IsTime (g : T_kit_IsTime) : Spec A := fun args => match args with | [.agg [.d (.int .i64 a1), .d (.int .i64 a2)]] => fun k => g ⟨a1, a2⟩ (fun z0 => k (.d (.bool z0)) [.undef]) | _ => fun _ => none
noncomputable def code_197 : Code := (Tryz.f197.body).getD .skip
noncomputable def E_kit_IsTime (g : Nat) : Env A := mkE [] [(1, [0])] [] [] [] [] [] [] [] []
theorem sm_kit_IsTime (g : Nat) : Same (SS_kit_IsTime (@kit_IsTime_ g)) (abody (E_kit_IsTime g) Tryz.f197 code_197 1 [] [.asis] g) := by intro args; unfold SS_kit_IsTime; split; exact .inr fun R k => (by kernel_rfl); exact .inl fun R k => rfl
theorem ok_kit_IsTime [Fuel] : Ok 197 (SS_kit_IsTime (@kit_IsTime _)) := okF_of std .nil ⟨rfl, rfl, by kernel_rfl, rfl, rfl, rfl⟩ (sm_kit_IsTime NN) (cuts0 (fun _ => rfl) (by kernel_rfl)) Tryz.func197 (by kernel_rfl) (by kernel_rfl)
abbrev T_band_compareSegments : Type 1 := G_Segment → G_Segment → {R : Type} → (Int → Option R) → Option R
structure C_band_compareSegments where
 N : Nat
 strings_Compare : T_strings_Compare
 cmp_Or__int : T_cmp_Or__int
 cmp_Compare__int : T_cmp_Compare__int
def band_compareSegments_ (g : C_band_compareSegments) (a1 a2 : G_Segment) {R : Type} (k0 : Int → Option R) : Option R :=
 (g.strings_Compare a1.f_Class a2.f_Class (fun r3 => (g.cmp_Compare__int a1.f_Low a2.f_Low (fun r4 => (g.cmp_Compare__int a1.f_High a2.f_High (fun r5 => (g.cmp_Compare__int a1.f_Time.f_From a2.f_Time.f_From (fun r6 => (g.cmp_Or__int [r3, r4, r5, r6] (fun r7 => k0 r7))))))))))
noncomputable def I_band_compareSegments [Fuel] : C_band_compareSegments := ⟨NN, @strings_Compare _, @cmp_Or__int _, @cmp_Compare__int _⟩
noncomputable def band_compareSegments [Fuel] : T_band_compareSegments := @band_compareSegments_ I_band_compareSegments
def SS_band_compareSegments (g : T_band_compareSegments) : Spec A := fun args => match args with | [.agg [.d (.str a1), .d (.int .i64 a2), .d (.int .i64 a3), .d (.sl 3 a4), .d (.int .i64 a5), .d (.int .i64 a6)], .agg [.d (.str a7), .d (.int .i64 a8), .d (.int .i64 a9), .d (.sl 3 a10), .d (.int .i64 a11), .d (.int .i64 a12)]] => fun k => g ⟨a1, a2, a3, a4, ⟨a5, a6⟩⟩ ⟨a7, a8, a9, a10, ⟨a11, a12⟩⟩ (fun z0 => k (.d (.int .i64 z0)) [.undef, .undef]) | _ => fun _ => none
noncomputable def code_198 : Code := (Tryz.f198.body).getD .skip
noncomputable def E_band_compareSegments (g : C_band_compareSegments) : Env A := mkE [(118, SS_strings_Compare g.strings_Compare), (168, SS_cmp_Or__int g.cmp_Or__int), (169, SS_cmp_Compare__int g.cmp_Compare__int)] [(2, [0]), (3, [1]), (27, [2])] [] [] [] [] [] [] [] []
theorem sm_band_compareSegments (g : C_band_compareSegments) : Same (SS_band_compareSegments (@band_compareSegments_ g)) (abody (E_band_compareSegments g) Tryz.f198 code_198 3 [] [.asis] g.N) := by intro args; unfold SS_band_compareSegments; split; exact .inr fun R k => (by kernel_rfl); exact .inl fun R k => rfl
theorem ok_band_compareSegments [Fuel] : Ok 198 (SS_band_compareSegments (@band_compareSegments _)) := okF_of std (.cons ok_strings_Compare (.cons ok_cmp_Or__int (.cons ok_cmp_Compare__int .nil))) ⟨rfl, rfl, by kernel_rfl, rfl, rfl, rfl⟩ (sm_band_compareSegments I_band_compareSegments) (cuts0 (fun _ => rfl) (by kernel_rfl)) Tryz.func198 (by kernel_rfl) (by kernel_rfl)
abbrev T_band_CheckSegments : Type 1 := List G_Segment → {R : Type} → (Int → Option R) → Option R
structure C_band_CheckSegments where
 N : Nat
 kit_IsKey : T_kit_IsKey
 band_modesFault : T_band_modesFault
 kit_IsTime : T_kit_IsTime
 band_compareSegments : T_band_compareSegments
def band_CheckSegments_L4 (g : C_band_CheckSegments) : Nat → List G_Segment → List G_Segment → Int → Int → {R : Type} → (Int → Option R) → Option R → Option R
 | 0, _, _, _, _, _, _, _ => none
 | n + 1, v2, v3, v4, v5, _, e0, e1 => (bif (decide (v5 < v4)) then (get_ v3 v5 fun x12 => (g.kit_IsKey x12.f_Class (fun r13 => (bif (!r13) then e0 5 else (bif (decide (x12.f_Low < 0)) then e0 1 else (bif (decide (x12.f_Low ≥ x12.f_High)) then e0 1 else (bif (decide (x12.f_High > 30000000000)) then e0 1 else (g.band_modesFault x12.f_Modes (fun r14 => (bif (r14 != 0) then e0 r14 else (g.kit_IsTime x12.f_Time (fun r15 => (bif (!r15) then e0 1 else (bif (decide (v5 > 0)) then (get_ v2 (w64 (v5 - 1)) fun x16 => (g.band_compareSegments x16 x12 (fun r17 => (bif (decide (r17 ≥ 0)) then e0 7 else band_CheckSegments_L4 g n v2 v3 v4 (w64 (v5 + 1)) e0 e1)))) else band_CheckSegments_L4 g n v2 v3 v4 (w64 (v5 + 1)) e0 e1)))))))))))))) else e1)
def band_CheckSegments_ (g : C_band_CheckSegments) (a1 : List G_Segment) {R : Type} (k0 : Int → Option R) : Option R :=
 (bif (decide ((a1.length : Int) > 500)) then k0 2 else (band_CheckSegments_L4 g g.N a1 a1 (a1.length : Int) 0 (fun e18 => k0 e18) (k0 0)))
noncomputable def I_band_CheckSegments [Fuel] : C_band_CheckSegments := ⟨NN, @kit_IsKey _, @band_modesFault _, @kit_IsTime _, @band_compareSegments _⟩
noncomputable def band_CheckSegments [Fuel] : T_band_CheckSegments := @band_CheckSegments_ I_band_CheckSegments
def SS_band_CheckSegments (g : T_band_CheckSegments) : Spec A := fun args => match args with | [.d (.sl 135 a1)] => fun k => g a1 (fun z0 => k (.d (.int .i64 z0)) [.undef]) | _ => fun _ => none
def sh_band_CheckSegments_L4 : SSt := mkSh 58 1 [(0, .sl 135), (9, .sl 135), (10, .int .i64), (11, .int .i64)] []
def LP_band_CheckSegments_L4 (g : C_band_CheckSegments) (n : Nat) : LPT A := fun ps => match ps with | [.d (.sl 135 p1), .d (.sl 135 p2), .d (.int .i64 p3), .d (.int .i64 p4)] => fun K => band_CheckSegments_L4 g n p1 p2 p3 p4 (fun z0 => K .ret (mkSt 58 1 [(2, .d (.int .i64 z0))] [])) (K (.exit 0) (mkSt 58 1 [] [])) | _ => fun _ => none
noncomputable def code_152 : Code := (Tryz.f152.body).getD .skip
noncomputable def E_band_CheckSegments (g : C_band_CheckSegments) : Env A := mkE [(137, SS_kit_IsKey g.kit_IsKey), (196, SS_band_modesFault g.band_modesFault), (197, SS_kit_IsTime g.kit_IsTime), (198, SS_band_compareSegments g.band_compareSegments)] [(4, [0])] [(4, ⟨[0, 9, 10, 11], [], [], [], [], [], []⟩)] [(4, ⟨[2], [], [], [], [], [], []⟩)] [(4, pieceOf sh_band_CheckSegments_L4 (LP_band_CheckSegments_L4 g g.N))] [] [] [] [] []
theorem ct_band_CheckSegments [Fuel] : NatTab (E_band_CheckSegments I_band_CheckSegments).C := ct_of (P := Tryz.prog) (T := T) (.cons ok_kit_IsKey (.cons ok_band_modesFault (.cons ok_kit_IsTime (.cons ok_band_compareSegments .nil)))) (by kernel_rfl)
noncomputable def cb_band_CheckSegments_L4 : Code := sub [1, 1, 0, 1, 0, 0] code_152
theorem s_band_CheckSegments_L4 (g : C_band_CheckSegments) (n : Nat) : StepOk (E_band_CheckSegments g) g.N cb_band_CheckSegments_L4 sh_band_CheckSegments_L4 (LP_band_CheckSegments_L4 g) n := by intro ps; unfold LP_band_CheckSegments_L4; split; exact .inr fun R K => (by kernel_rfl); exact .inl fun R K => rfl
theorem lf_band_CheckSegments_L4 [Fuel] : LoopFine (E_band_CheckSegments I_band_CheckSegments) NN cb_band_CheckSegments_L4 := fine_loop sh_band_CheckSegments_L4 (LP_band_CheckSegments_L4 I_band_CheckSegments) (by kernel_rfl) ct_band_CheckSegments (cuts0 (fun _ => rfl) (by kernel_rfl)) (fun ps R K => by unfold LP_band_CheckSegments_L4; split <;> (try unfold band_CheckSegments_L4) <;> rfl) (s_band_CheckSegments_L4 I_band_CheckSegments)
theorem sm_band_CheckSegments (g : C_band_CheckSegments) : Same (SS_band_CheckSegments (@band_CheckSegments_ g)) (abody (E_band_CheckSegments g) Tryz.f152 code_152 1 [] [.asis] g.N) := by intro args; unfold SS_band_CheckSegments; split; exact .inr fun R k => (by kernel_rfl); exact .inl fun R k => rfl
theorem ok_band_CheckSegments [Fuel] : Ok 152 (SS_band_CheckSegments (@band_CheckSegments _)) := okF_of std (.cons ok_kit_IsKey (.cons ok_band_modesFault (.cons ok_kit_IsTime (.cons ok_band_compareSegments .nil)))) ⟨rfl, rfl, by kernel_rfl, rfl, rfl, rfl⟩ (sm_band_CheckSegments I_band_CheckSegments) (cutsL (fun _ => rfl) (.cons lf_band_CheckSegments_L4 .nil) (by kernel_rfl)) Tryz.func152 (by kernel_rfl) (by kernel_rfl)
abbrev T_band_used : Type 1 := Int → Int → {R : Type} → (G_Row → Option R) → Option R
def band_used_ (g : Nat) (a1 a2 : Int) {R : Type} (k0 : G_Row → Option R) : Option R :=
 k0 (⟨(w64 (a1 - (w64 (Int.tdiv a2 2)))), (w64 ((w64 (a1 - (w64 (Int.tdiv a2 2)))) + a2))⟩ : G_Row)
noncomputable def band_used [Fuel] : T_band_used := @band_used_ NN
def SS_band_used (g : T_band_used) : Spec A := fun args => match args with | [.d (.int .i64 a1), .d (.int .i64 a2)] => fun k => g a1 a2 (fun z0 => k (.agg [.d (.int .i64 z0.f_From), .d (.int .i64 z0.f_To)]) [.undef, .undef]) | _ => fun _ => none
noncomputable def code_153 : Code := (Tryz.f153.body).getD .skip
noncomputable def E_band_used (g : Nat) : Env A := mkE [] [(4, [0])] [] [] [] [] [] [] [] []
theorem sm_band_used (g : Nat) : Same (SS_band_used (@band_used_ g)) (abody (E_band_used g) Tryz.f153 code_153 1 [] [.asis] g) := by intro args; unfold SS_band_used; split; exact .inr fun R k => (by kernel_rfl); exact .inl fun R k => rfl
theorem ok_band_used [Fuel] : Ok 153 (SS_band_used (@band_used _)) := okF_of std .nil ⟨rfl, rfl, by kernel_rfl, rfl, rfl, rfl⟩ (sm_band_used NN) (cuts0 (fun _ => rfl) (by kernel_rfl)) Tryz.func153 (by kernel_rfl) (by kernel_rfl)
abbrev T_kit_Has : Type 1 := G_Window → Int → {R : Type} → (Bool → Option R) → Option R
def kit_Has_ (g : Nat) (a1 : G_Window) (a2 : Int) {R : Type} (k0 : Bool → Option R) : Option R :=
 (bif (decide (a1.f_From ≤ a2)) then k0 (decide (a2 < a1.f_To)) else k0 false)
noncomputable def kit_Has [Fuel] : T_kit_Has := @kit_Has_ NN
def SS_kit_Has (g : T_kit_Has) : Spec A := fun args => match args with | [.agg [.d (.int .i64 a1), .d (.int .i64 a2)], .d (.int .i64 a3)] => fun k => g ⟨a1, a2⟩ a3 (fun z0 => k (.d (.bool z0)) [.undef, .undef]) | _ => fun _ => none
noncomputable def code_201 : Code := (Tryz.f201.body).getD .skip
noncomputable def E_kit_Has (g : Nat) : Env A := mkE [] [(2, [0])] [] [] [] [] [] [] [] []
theorem sm_kit_Has (g : Nat) : Same (SS_kit_Has (@kit_Has_ g)) (abody (E_kit_Has g) Tryz.f201 code_201 1 [] [.asis] g) := by intro args; unfold SS_kit_Has; split; exact .inr fun R k => (by kernel_rfl); exact .inl fun R k => rfl
theorem ok_kit_Has [Fuel] : Ok 201 (SS_kit_Has (@kit_Has _)) := okF_of std .nil ⟨rfl, rfl, by kernel_rfl, rfl, rfl, rfl⟩ (sm_kit_Has NN) (cuts0 (fun _ => rfl) (by kernel_rfl)) Tryz.func201 (by kernel_rfl) (by kernel_rfl)
abbrev T_slices_Index__int : Type 1 := List Int → Int → {R : Type} → (Int → Option R) → Option R
def slices_Index__int_L2 (g : Nat) : Nat → List Int → Int → Int → Int → {R : Type} → (Int → Option R) → Option R → Option R
 | 0, _, _, _, _, _, _, _ => none
 | n + 1, v3, v4, v5, v6, _, e0, e1 => (bif (decide (v6 < v5)) then (get_ v3 v6 fun x8 => (bif (v4 == x8) then e0 v6 else slices_Index__int_L2 g n v3 v4 v5 (w64 (v6 + 1)) e0 e1)) else e1)
def slices_Index__int_ (g : Nat) (a1 : List Int) (a2 : Int) {R : Type} (k0 : Int → Option R) : Option R :=
 (slices_Index__int_L2 g g a1 a2 (a1.length : Int) 0 (fun e9 => k0 e9) (k0 (-1)))
noncomputable def slices_Index__int [Fuel] : T_slices_Index__int := @slices_Index__int_ NN
def SS_slices_Index__int (g : T_slices_Index__int) : Spec A := fun args => match args with | [.d (.sl 3 a1), .d (.int .i64 a2)] => fun k => g a1 a2 (fun z0 => k (.d (.int .i64 z0)) [.undef, .undef]) | _ => fun _ => none
def sh_slices_Index__int_L2 : SSt := mkSh 19 0 [(0, .sl 3), (1, .int .i64), (7, .int .i64), (8, .int .i64)] []
def LP_slices_Index__int_L2 (g : Nat) (n : Nat) : LPT A := fun ps => match ps with | [.d (.sl 3 p1), .d (.int .i64 p2), .d (.int .i64 p3), .d (.int .i64 p4)] => fun K => slices_Index__int_L2 g n p1 p2 p3 p4 (fun z0 => K .ret (mkSt 19 0 [(4, .d (.int .i64 z0))] [])) (K (.exit 0) (mkSt 19 0 [] [])) | _ => fun _ => none
noncomputable def code_252 : Code := (Tryz.f252.body).getD .skip
noncomputable def E_slices_Index__int (g : Nat) : Env A := mkE [] [] [(2, ⟨[0, 1, 7, 8], [], [], [], [], [], []⟩)] [(2, ⟨[4], [], [], [], [], [], []⟩)] [(2, pieceOf sh_slices_Index__int_L2 (LP_slices_Index__int_L2 g g))] [] [] [] [] []
theorem ct_slices_Index__int [Fuel] : NatTab (E_slices_Index__int NN).C := ct_of (P := Tryz.prog) (T := T) .nil (by kernel_rfl)
noncomputable def cb_slices_Index__int_L2 : Code := sub [1, 0, 1, 0, 0] code_252
theorem s_slices_Index__int_L2 (g : Nat) (n : Nat) : StepOk (E_slices_Index__int g) g cb_slices_Index__int_L2 sh_slices_Index__int_L2 (LP_slices_Index__int_L2 g) n := by intro ps; unfold LP_slices_Index__int_L2; split; exact .inr fun R K => (by kernel_rfl); exact .inl fun R K => rfl
theorem lf_slices_Index__int_L2 [Fuel] : LoopFine (E_slices_Index__int NN) NN cb_slices_Index__int_L2 := fine_loop sh_slices_Index__int_L2 (LP_slices_Index__int_L2 NN) (by kernel_rfl) ct_slices_Index__int (cuts0 (fun _ => rfl) (by kernel_rfl)) (fun ps R K => by unfold LP_slices_Index__int_L2; split <;> (try unfold slices_Index__int_L2) <;> rfl) (s_slices_Index__int_L2 NN)
theorem sm_slices_Index__int (g : Nat) : Same (SS_slices_Index__int (@slices_Index__int_ g)) (abody (E_slices_Index__int g) Tryz.f252 code_252 0 [] [.asis] g) := by intro args; unfold SS_slices_Index__int; split; exact .inr fun R k => (by kernel_rfl); exact .inl fun R k => rfl
theorem ok_slices_Index__int [Fuel] : Ok 252 (SS_slices_Index__int (@slices_Index__int _)) := okF_of std .nil ⟨rfl, rfl, by kernel_rfl, rfl, rfl, rfl⟩ (sm_slices_Index__int NN) (cutsL (fun _ => rfl) (.cons lf_slices_Index__int_L2 .nil) (by kernel_rfl)) Tryz.func252 (by kernel_rfl) (by kernel_rfl)
abbrev T_slices_Contains__int : Type 1 := List Int → Int → {R : Type} → (Bool → Option R) → Option R
structure C_slices_Contains__int where
 N : Nat
 slices_Index__int : T_slices_Index__int
def slices_Contains__int_ (g : C_slices_Contains__int) (a1 : List Int) (a2 : Int) {R : Type} (k0 : Bool → Option R) : Option R :=
 (g.slices_Index__int a1 a2 (fun r3 => k0 (decide (r3 ≥ 0))))
noncomputable def I_slices_Contains__int [Fuel] : C_slices_Contains__int := ⟨NN, @slices_Index__int _⟩
noncomputable def slices_Contains__int [Fuel] : T_slices_Contains__int := @slices_Contains__int_ I_slices_Contains__int
def SS_slices_Contains__int (g : T_slices_Contains__int) : Spec A := fun args => match args with | [.d (.sl 3 a1), .d (.int .i64 a2)] => fun k => g a1 a2 (fun z0 => k (.d (.bool z0)) [.undef, .undef]) | _ => fun _ => none
noncomputable def code_200 : Code := (Tryz.f200.body).getD .skip
noncomputable def E_slices_Contains__int (g : C_slices_Contains__int) : Env A := mkE [(252, SS_slices_Index__int g.slices_Index__int)] [] [] [] [] [] [] [] [] []
theorem sm_slices_Contains__int (g : C_slices_Contains__int) : Same (SS_slices_Contains__int (@slices_Contains__int_ g)) (abody (E_slices_Contains__int g) Tryz.f200 code_200 0 [] [.asis] g.N) := by intro args; unfold SS_slices_Contains__int; split; exact .inr fun R k => (by kernel_rfl); exact .inl fun R k => rfl
theorem ok_slices_Contains__int [Fuel] : Ok 200 (SS_slices_Contains__int (@slices_Contains__int _)) := okF_of std (.cons ok_slices_Index__int .nil) ⟨rfl, rfl, by kernel_rfl, rfl, rfl, rfl⟩ (sm_slices_Contains__int I_slices_Contains__int) (cuts0 (fun _ => rfl) (by kernel_rfl)) Tryz.func200 (by kernel_rfl) (by kernel_rfl)
abbrev T_band_joined_1 : Type 1 := G_Row → G_Row → {R : Type} → (Int → Option R) → Option R
def band_joined_1_ (g : Nat) (a1 a2 : G_Row) {R : Type} (k0 : Int → Option R) : Option R :=
 k0 (w64 (a1.f_From - a2.f_From))
noncomputable def band_joined_1 [Fuel] : T_band_joined_1 := @band_joined_1_ NN
def SS_band_joined_1 (g : T_band_joined_1) : Spec A := fun args => match args with | [.agg [.d (.int .i64 a1), .d (.int .i64 a2)], .agg [.d (.int .i64 a3), .d (.int .i64 a4)]] => fun k => g ⟨a1, a2⟩ ⟨a3, a4⟩ (fun z0 => k (.d (.int .i64 z0)) [.undef, .undef]) | _ => fun _ => none
noncomputable def code_254 : Code := (Tryz.f254.body).getD .skip
noncomputable def E_band_joined_1 (g : Nat) : Env A := mkE [] [(2, [0]), (3, [1])] [] [] [] [] [] [] [] []
theorem sm_band_joined_1 (g : Nat) : Same (SS_band_joined_1 (@band_joined_1_ g)) (abody (E_band_joined_1 g) Tryz.f254 code_254 2 [] [.asis] g) := by intro args; unfold SS_band_joined_1; split; exact .inr fun R k => (by kernel_rfl); exact .inl fun R k => rfl
theorem ok_band_joined_1 [Fuel] : Ok 254 (SS_band_joined_1 (@band_joined_1 _)) := okF_of std .nil ⟨rfl, rfl, by kernel_rfl, rfl, rfl, rfl⟩ (sm_band_joined_1 NN) (cuts0 (fun _ => rfl) (by kernel_rfl)) Tryz.func254 (by kernel_rfl) (by kernel_rfl)
noncomputable def Ed_band_joined_1 (g : Nat) : Env A := mkED [] [(2, [0]), (3, [1])] [] [] [] [] [] [] [] []
theorem smd_band_joined_1 (g : Nat) : Same (SS_band_joined_1 (@band_joined_1_ g)) (abody (Ed_band_joined_1 g) Tryz.f254 code_254 2 [] [.asis] g) := by intro args; unfold SS_band_joined_1; split; exact .inr fun R k => (by kernel_rfl); exact .inl fun R k => rfl
theorem okd_band_joined_1 [Fuel] : OkD 254 (SS_band_joined_1 (@band_joined_1 _)) := okF_of stdD .nil ⟨rfl, rfl, by kernel_rfl, rfl, rfl, rfl⟩ (smd_band_joined_1 NN) (cuts0 (fun _ => rfl) (by kernel_rfl)) Tryz.func254 (by kernel_rfl) (by kernel_rfl)
abbrev T_slices_SortFunc__Row_band_joined_1 : Type 1 := List G_Row → {R : Type} → (List G_Row → Option R) → Option R
noncomputable def slices_SortFunc__Row_band_joined_1 [Fuel] : T_slices_SortFunc__Row_band_joined_1 := @X_sortf G_Row (@band_joined_1 _)
def SS_slices_SortFunc__Row_band_joined_1 (g : T_slices_SortFunc__Row_band_joined_1) : Spec A := fun args => match args with | [.arr 173 a1, .fn 254 []] => fun k => g a1 (fun z => k (.tup []) [.arr 173 z, .fn 254 []]) | _ => fun _ => none
theorem h1_slices_SortFunc__Row_band_joined_1 [Fuel] (xs : List (A 173)) (R : Type) (k : IV A → List (IV A) → Option R) : SS_slices_SortFunc__Row_band_joined_1 (@slices_SortFunc__Row_band_joined_1 _) [.arr 173 xs, .fn 254 []] k = X_sortf (α := A 173) (@band_joined_1 _) xs (fun z => k (.tup []) [.arr 173 z, .fn 254 []]) := by kernel_rfl
theorem h2_slices_SortFunc__Row_band_joined_1 [Fuel] (args : List (IV A)) (R : Type) (k : IV A → List (IV A) → Option R) (h : ∀ xs : List (A 173), args ≠ [.arr 173 xs, .fn 254 []]) : SS_slices_SortFunc__Row_band_joined_1 (@slices_SortFunc__Row_band_joined_1 _) args k = none := by unfold SS_slices_SortFunc__Row_band_joined_1; split; exact absurd rfl (h _); rfl
theorem hc_slices_SortFunc__Row_band_joined_1 [Fuel] (x y : A 173) (R : Type) (k : Int → Option R) : callOf T (SS_band_joined_1 (@band_joined_1 _)) 173 x y k = @band_joined_1 _ x y R k := by kernel_rfl
theorem hs_slices_SortFunc__Row_band_joined_1 (x : G_Row) : (enc_e173 x).all scal = true := rfl
theorem ok_slices_SortFunc__Row_band_joined_1 [Fuel] : Ok 253 (SS_slices_SortFunc__Row_band_joined_1 (@slices_SortFunc__Row_band_joined_1 _)) := ⟨sortf_sound (tyOk Tryz.prog) (e := 173) Tryz.sortf253 Tryz.isAgg173 Tryz.sizeOf173 (fun x d hd => List.all_eq_true.1 (hs_slices_SortFunc__Row_band_joined_1 x) d hd) hc_slices_SortFunc__Row_band_joined_1 okd_band_joined_1.fs okd_band_joined_1.en h1_slices_SortFunc__Row_band_joined_1 h2_slices_SortFunc__Row_band_joined_1, sortf_na (e := 173) h1_slices_SortFunc__Row_band_joined_1 h2_slices_SortFunc__Row_band_joined_1, enters_of (fn := Tryz.f253) Tryz.func253 (by kernel_rfl) (by kernel_rfl)⟩
abbrev T_band_joined : Type 1 := List G_Row → {R : Type} → (List G_Row → Option R) → Option R
structure C_band_joined where
 N : Nat
 slices_SortFunc__Row_band_joined_1 : T_slices_SortFunc__Row_band_joined_1
def band_joined_L4 (g : C_band_joined) : Nat → Int → Int → List G_Row → List G_Row → {R : Type} → (List G_Row → Option R) → Option R
 | 0, _, _, _, _, _, _ => none
 | n + 1, v3, v4, v5, v6, _, e0 => (bif (decide (v4 < v3)) then (inr v5 v4 (at_ v5 v4 fun x11 => (bif (decide ((w64 ((v6.length : Int) - 1)) ≥ 0)) then (inr v6 (w64 ((v6.length : Int) - 1)) (at_ v6 (w64 ((v6.length : Int) - 1)) fun x12 => (bif (decide (x11.f_From ≤ x12.f_To)) then (inr v6 (w64 ((v6.length : Int) - 1)) (at_ v6 (w64 ((v6.length : Int) - 1)) fun x13 => (inr v6 (w64 ((v6.length : Int) - 1)) (at_ v6 (w64 ((v6.length : Int) - 1)) fun x14 => band_joined_L4 g n v3 (w64 (v4 + 1)) v5 (set_ v6 (w64 ((v6.length : Int) - 1)) (⟨x14.f_From, (if x11.f_To > x13.f_To then x11.f_To else x13.f_To)⟩ : G_Row)) e0)))) else (bif (decide ((v6.length + [x11].length) * 16 ≤ roomBytes')) then band_joined_L4 g n v3 (w64 (v4 + 1)) v5 (v6 ++ [x11]) e0 else none)))) else (bif (decide ((v6.length + [x11].length) * 16 ≤ roomBytes')) then band_joined_L4 g n v3 (w64 (v4 + 1)) v5 (v6 ++ [x11]) e0 else none)))) else e0 v6)
def band_joined_ (g : C_band_joined) (a1 : List G_Row) {R : Type} (k0 : List G_Row → Option R) : Option R :=
 (g.slices_SortFunc__Row_band_joined_1 a1 (fun r2 => (band_joined_L4 g g.N (r2.length : Int) 0 r2 [] (fun e15 => k0 e15))))
noncomputable def I_band_joined [Fuel] : C_band_joined := ⟨NN, @slices_SortFunc__Row_band_joined_1 _⟩
noncomputable def band_joined [Fuel] : T_band_joined := @band_joined_ I_band_joined
def SS_band_joined (g : T_band_joined) : Spec A := fun args => match args with | [.arr 173 a1] => fun k => g a1 (fun z0 => k (.arr 173 z0) [.undef]) | _ => fun _ => none
def sh_band_joined_L4 : SSt := mkSh 48 5 [(3, .own 173 1), (9, .own 173 0), (10, .int .i64), (11, .int .i64)] [(0, .row 173), (1, .row 173)]
def LP_band_joined_L4 (g : C_band_joined) (n : Nat) : LPT A := fun ps => match ps with | [.d (.int .i64 p1), .d (.int .i64 p2), .d (.sl 173 p3), .d (.sl 173 p4)] => fun K => band_joined_L4 g n p1 p2 p3 p4 (fun z0 => K (.exit 0) (mkSt 48 5 [(3, .own 173 1)] [(1, some (.row 173 z0))])) | _ => fun _ => none
noncomputable def code_202 : Code := (Tryz.f202.body).getD .skip
noncomputable def E_band_joined (g : C_band_joined) : Env A := mkE [(253, SS_slices_SortFunc__Row_band_joined_1 g.slices_SortFunc__Row_band_joined_1)] [(5, [2]), (44, [3]), (45, [4])] [(4, ⟨[3, 9, 10, 11], [(3, 173, 1)], [0], [], [], [], []⟩)] [(4, ⟨[3], [], [1], [], [], [], []⟩)] [(4, pieceOf sh_band_joined_L4 (LP_band_joined_L4 g g.N))] [] [] [] [(253, 0)] []
theorem ct_band_joined [Fuel] : NatTab (E_band_joined I_band_joined).C := ct_of (P := Tryz.prog) (T := T) (.cons ok_slices_SortFunc__Row_band_joined_1 .nil) (by kernel_rfl)
noncomputable def cb_band_joined_L4 : Code := sub [1, 1, 1, 0, 1, 0, 0] code_202
theorem s_band_joined_L4 (g : C_band_joined) (n : Nat) : StepOk (E_band_joined g) g.N cb_band_joined_L4 sh_band_joined_L4 (LP_band_joined_L4 g) n := by intro ps; unfold LP_band_joined_L4; split; exact .inr fun R K => (by kernel_rfl); exact .inl fun R K => rfl
theorem lf_band_joined_L4 [Fuel] : LoopFine (E_band_joined I_band_joined) NN cb_band_joined_L4 := fine_loop sh_band_joined_L4 (LP_band_joined_L4 I_band_joined) (by kernel_rfl) ct_band_joined (cuts0 (fun _ => rfl) (by kernel_rfl)) (fun ps R K => by unfold LP_band_joined_L4; split <;> (try unfold band_joined_L4) <;> rfl) (s_band_joined_L4 I_band_joined)
theorem sm_band_joined (g : C_band_joined) : Same (SS_band_joined (@band_joined_ g)) (abody (E_band_joined g) Tryz.f202 code_202 5 [0] [.arr 173] g.N) := by intro args; unfold SS_band_joined; split; exact .inr fun R k => (by kernel_rfl); exact .inl fun R k => rfl
theorem ok_band_joined [Fuel] : Ok 202 (SS_band_joined (@band_joined _)) := okF_of std (.cons ok_slices_SortFunc__Row_band_joined_1 .nil) ⟨rfl, rfl, by kernel_rfl, rfl, rfl, rfl⟩ (sm_band_joined I_band_joined) (cutsL (fun _ => rfl) (.cons lf_band_joined_L4 .nil) (by kernel_rfl)) Tryz.func202 (by kernel_rfl) (by kernel_rfl)
abbrev T_band_permitted : Type 1 := List G_Segment → List UInt8 → Int → Int → {R : Type} → (List G_Row → Option R) → Option R
structure C_band_permitted where
 N : Nat
 slices_Contains__int : T_slices_Contains__int
 kit_Has : T_kit_Has
 band_joined : T_band_joined
def band_permitted_L3 (g : C_band_permitted) : Nat → List UInt8 → Int → Int → List G_Segment → Int → Int → List G_Row → {R : Type} → (List G_Row → Option R) → Option R
 | 0, _, _, _, _, _, _, _, _, _ => none
 | n + 1, v5, v6, v7, v8, v9, v10, v11, _, e0 => (bif (decide (v10 < v9)) then (get_ v8 v10 fun x16 => (bif (x16.f_Class == v5) then (bif (v6 == 0) then (g.kit_Has x16.f_Time v7 (fun r17 => (bif r17 then (bif (decide ((v11.length + [(⟨x16.f_Low, x16.f_High⟩ : G_Row)].length) * 16 ≤ roomBytes')) then band_permitted_L3 g n v5 v6 v7 v8 v9 (w64 (v10 + 1)) (v11 ++ [(⟨x16.f_Low, x16.f_High⟩ : G_Row)]) e0 else none) else band_permitted_L3 g n v5 v6 v7 v8 v9 (w64 (v10 + 1)) v11 e0))) else (g.slices_Contains__int x16.f_Modes v6 (fun r18 => (bif r18 then (g.kit_Has x16.f_Time v7 (fun r19 => (bif r19 then (bif (decide ((v11.length + [(⟨x16.f_Low, x16.f_High⟩ : G_Row)].length) * 16 ≤ roomBytes')) then band_permitted_L3 g n v5 v6 v7 v8 v9 (w64 (v10 + 1)) (v11 ++ [(⟨x16.f_Low, x16.f_High⟩ : G_Row)]) e0 else none) else band_permitted_L3 g n v5 v6 v7 v8 v9 (w64 (v10 + 1)) v11 e0))) else band_permitted_L3 g n v5 v6 v7 v8 v9 (w64 (v10 + 1)) v11 e0)))) else band_permitted_L3 g n v5 v6 v7 v8 v9 (w64 (v10 + 1)) v11 e0)) else e0 v11)
def band_permitted_ (g : C_band_permitted) (a1 : List G_Segment) (a2 : List UInt8) (a3 a4 : Int) {R : Type} (k0 : List G_Row → Option R) : Option R :=
 (band_permitted_L3 g g.N a2 a3 a4 a1 (a1.length : Int) 0 [] (fun e20 => (g.band_joined e20 (fun r21 => k0 r21))))
noncomputable def I_band_permitted [Fuel] : C_band_permitted := ⟨NN, @slices_Contains__int _, @kit_Has _, @band_joined _⟩
noncomputable def band_permitted [Fuel] : T_band_permitted := @band_permitted_ I_band_permitted
def SS_band_permitted (g : T_band_permitted) : Spec A := fun args => match args with | [.d (.sl 135 a1), .d (.str a2), .d (.int .i64 a3), .d (.int .i64 a4)] => fun k => g a1 a2 a3 a4 (fun z0 => k (.arr 173 z0) [.undef, .undef, .undef, .undef]) | _ => fun _ => none
def sh_band_permitted_L3 : SSt := mkSh 49 5 [(1, .str), (2, .int .i64), (3, .int .i64), (9, .own 173 0), (12, .sl 135), (13, .int .i64), (14, .int .i64)] [(0, .row 173)]
def LP_band_permitted_L3 (g : C_band_permitted) (n : Nat) : LPT A := fun ps => match ps with | [.d (.str p1), .d (.int .i64 p2), .d (.int .i64 p3), .d (.sl 135 p4), .d (.int .i64 p5), .d (.int .i64 p6), .d (.sl 173 p7)] => fun K => band_permitted_L3 g n p1 p2 p3 p4 p5 p6 p7 (fun z0 => K (.exit 0) (mkSt 49 5 [(9, .own 173 0)] [(0, some (.row 173 z0))])) | _ => fun _ => none
noncomputable def code_155 : Code := (Tryz.f155.body).getD .skip
noncomputable def E_band_permitted (g : C_band_permitted) : Env A := mkE [(200, SS_slices_Contains__int g.slices_Contains__int), (201, SS_kit_Has g.kit_Has), (202, SS_band_joined g.band_joined)] [(11, [1]), (44, [2]), (45, [3]), (48, [4])] [(3, ⟨[1, 2, 3, 9, 12, 13, 14], [(9, 173, 0)], [], [], [], [], []⟩)] [(3, ⟨[9], [], [0], [], [], [], []⟩)] [(3, pieceOf sh_band_permitted_L3 (LP_band_permitted_L3 g g.N))] [] [] [] [(202, 0)] []
theorem ct_band_permitted [Fuel] : NatTab (E_band_permitted I_band_permitted).C := ct_of (P := Tryz.prog) (T := T) (.cons ok_slices_Contains__int (.cons ok_kit_Has (.cons ok_band_joined .nil))) (by kernel_rfl)
noncomputable def cb_band_permitted_L3 : Code := sub [1, 1, 0, 1, 0, 0] code_155
theorem s_band_permitted_L3 (g : C_band_permitted) (n : Nat) : StepOk (E_band_permitted g) g.N cb_band_permitted_L3 sh_band_permitted_L3 (LP_band_permitted_L3 g) n := by intro ps; unfold LP_band_permitted_L3; split; exact .inr fun R K => (by kernel_rfl); exact .inl fun R K => rfl
theorem lf_band_permitted_L3 [Fuel] : LoopFine (E_band_permitted I_band_permitted) NN cb_band_permitted_L3 := fine_loop sh_band_permitted_L3 (LP_band_permitted_L3 I_band_permitted) (by kernel_rfl) ct_band_permitted (cuts0 (fun _ => rfl) (by kernel_rfl)) (fun ps R K => by unfold LP_band_permitted_L3; split <;> (try unfold band_permitted_L3) <;> rfl) (s_band_permitted_L3 I_band_permitted)
theorem sm_band_permitted (g : C_band_permitted) : Same (SS_band_permitted (@band_permitted_ g)) (abody (E_band_permitted g) Tryz.f155 code_155 5 [] [.arr 173] g.N) := by intro args; unfold SS_band_permitted; split; exact .inr fun R k => (by kernel_rfl); exact .inl fun R k => rfl
theorem ok_band_permitted [Fuel] : Ok 155 (SS_band_permitted (@band_permitted _)) := okF_of std (.cons ok_slices_Contains__int (.cons ok_kit_Has (.cons ok_band_joined .nil))) ⟨rfl, rfl, by kernel_rfl, rfl, rfl, rfl⟩ (sm_band_permitted I_band_permitted) (cutsL (fun _ => rfl) (.cons lf_band_permitted_L3 .nil) (by kernel_rfl)) Tryz.func155 (by kernel_rfl) (by kernel_rfl)
abbrev T_band_May_1 : Type 1 := G_Row → G_Row → {R : Type} → (Bool → G_Row → Option R) → Option R
def band_May_1_ (g : Nat) (a1 a2 : G_Row) {R : Type} (k0 : Bool → G_Row → Option R) : Option R :=
 (bif (decide (a1.f_From ≤ a2.f_From)) then k0 (decide (a2.f_To ≤ a1.f_To)) a2 else k0 false a2)
noncomputable def band_May_1 [Fuel] : T_band_May_1 := @band_May_1_ NN
def SS_band_May_1 (g : T_band_May_1) : Spec A := fun args => match args with | [.agg [.d (.int .i64 a1), .d (.int .i64 a2)], .box [.d (.int .i64 a3), .d (.int .i64 a4)]] => fun k => g ⟨a1, a2⟩ ⟨a3, a4⟩ (fun z0 z1 => k (.d (.bool z0)) [.undef, .box [.d (.int .i64 z1.f_From), .d (.int .i64 z1.f_To)]]) | _ => fun _ => none
noncomputable def code_156 : Code := (Tryz.f156.body).getD .skip
noncomputable def E_band_May_1 (g : Nat) : Env A := mkE [] [(2, [1])] [] [] [] [] [] [] [] [1]
theorem sm_band_May_1 (g : Nat) : Same (SS_band_May_1 (@band_May_1_ g)) (abody (E_band_May_1 g) Tryz.f156 code_156 2 [0] [.asis] g) := by intro args; unfold SS_band_May_1; split; exact .inr fun R k => (by kernel_rfl); exact .inl fun R k => rfl
theorem ok_band_May_1 [Fuel] : Ok 156 (SS_band_May_1 (@band_May_1 _)) := okF_of std .nil ⟨rfl, rfl, by kernel_rfl, rfl, rfl, rfl⟩ (sm_band_May_1 NN) (cuts0 (fun _ => rfl) (by kernel_rfl)) Tryz.func156 (by kernel_rfl) (by kernel_rfl)
abbrev T_slices_IndexFunc__Row_band_May_1 : Type 1 := List G_Row → G_Row → {R : Type} → (Int → G_Row → Option R) → Option R
structure C_slices_IndexFunc__Row_band_May_1 where
 N : Nat
 band_May_1 : T_band_May_1
def slices_IndexFunc__Row_band_May_1_L2 (g : C_slices_IndexFunc__Row_band_May_1) : Nat → List G_Row → Int → Int → G_Row → {R : Type} → (Int → G_Row → Option R) → (G_Row → Option R) → Option R
 | 0, _, _, _, _, _, _, _ => none
 | n + 1, v3, v4, v5, v6, _, e0, e1 => (bif (decide (v5 < v4)) then (get_ v3 v5 fun x10 => (g.band_May_1 x10 v6 (fun r11 r12 => (bif r11 then e0 v5 r12 else slices_IndexFunc__Row_band_May_1_L2 g n v3 v4 (w64 (v5 + 1)) r12 e0 e1)))) else e1 v6)
def slices_IndexFunc__Row_band_May_1_ (g : C_slices_IndexFunc__Row_band_May_1) (a1 : List G_Row) (a2 : G_Row) {R : Type} (k0 : Int → G_Row → Option R) : Option R :=
 (slices_IndexFunc__Row_band_May_1_L2 g g.N a1 (a1.length : Int) 0 a2 (fun e13 e14 => k0 e13 e14) (fun e15 => k0 (-1) e15))
noncomputable def I_slices_IndexFunc__Row_band_May_1 [Fuel] : C_slices_IndexFunc__Row_band_May_1 := ⟨NN, @band_May_1 _⟩
noncomputable def slices_IndexFunc__Row_band_May_1 [Fuel] : T_slices_IndexFunc__Row_band_May_1 := @slices_IndexFunc__Row_band_May_1_ I_slices_IndexFunc__Row_band_May_1
def SS_slices_IndexFunc__Row_band_May_1 (g : T_slices_IndexFunc__Row_band_May_1) : Spec A := fun args => match args with | [.d (.sl 173 a1), .fn 156 [.box [.d (.int .i64 a2), .d (.int .i64 a3)]]] => fun k => g a1 ⟨a2, a3⟩ (fun z0 z1 => k (.d (.int .i64 z0)) [.undef, .fn 156 [.box [.d (.int .i64 z1.f_From), .d (.int .i64 z1.f_To)]]]) | _ => fun _ => none
def sh_slices_IndexFunc__Row_band_May_1_L2 : SSt := mkSh 19 1 [(0, .sl 173), (1, .fn 156 [.ptr 0 0]), (7, .int .i64), (8, .int .i64)] [(0, .box [.int .i64, .int .i64])]
def LP_slices_IndexFunc__Row_band_May_1_L2 (g : C_slices_IndexFunc__Row_band_May_1) (n : Nat) : LPT A := fun ps => match ps with | [.d (.sl 173 p1), .d (.int .i64 p2), .d (.int .i64 p3), .d (.int .i64 p4), .d (.int .i64 p5)] => fun K => slices_IndexFunc__Row_band_May_1_L2 g n p1 p2 p3 ⟨p4, p5⟩ (fun z0 z1 => K .ret (mkSt 19 1 [(1, .fn 156 [.ptr 0 0]), (4, .d (.int .i64 z0))] [(0, some (.box [.d (.int .i64 z1.f_From), .d (.int .i64 z1.f_To)]))])) (fun z0 => K (.exit 0) (mkSt 19 1 [(1, .fn 156 [.ptr 0 0])] [(0, some (.box [.d (.int .i64 z0.f_From), .d (.int .i64 z0.f_To)]))])) | _ => fun _ => none
noncomputable def code_199 : Code := (Tryz.f199.body).getD .skip
noncomputable def E_slices_IndexFunc__Row_band_May_1 (g : C_slices_IndexFunc__Row_band_May_1) : Env A := mkE [(156, SS_band_May_1 g.band_May_1)] [] [(2, ⟨[0, 1, 7, 8], [], [0], [], [], [], []⟩)] [(2, ⟨[1, 4], [], [0], [], [], [], []⟩)] [(2, pieceOf sh_slices_IndexFunc__Row_band_May_1_L2 (LP_slices_IndexFunc__Row_band_May_1_L2 g g.N))] [] [] [] [] [1]
theorem ct_slices_IndexFunc__Row_band_May_1 [Fuel] : NatTab (E_slices_IndexFunc__Row_band_May_1 I_slices_IndexFunc__Row_band_May_1).C := ct_of (P := Tryz.prog) (T := T) (.cons ok_band_May_1 .nil) (by kernel_rfl)
noncomputable def cb_slices_IndexFunc__Row_band_May_1_L2 : Code := sub [1, 0, 1, 0, 0] code_199
theorem s_slices_IndexFunc__Row_band_May_1_L2 (g : C_slices_IndexFunc__Row_band_May_1) (n : Nat) : StepOk (E_slices_IndexFunc__Row_band_May_1 g) g.N cb_slices_IndexFunc__Row_band_May_1_L2 sh_slices_IndexFunc__Row_band_May_1_L2 (LP_slices_IndexFunc__Row_band_May_1_L2 g) n := by intro ps; unfold LP_slices_IndexFunc__Row_band_May_1_L2; split; exact .inr fun R K => (by kernel_rfl); exact .inl fun R K => rfl
theorem lf_slices_IndexFunc__Row_band_May_1_L2 [Fuel] : LoopFine (E_slices_IndexFunc__Row_band_May_1 I_slices_IndexFunc__Row_band_May_1) NN cb_slices_IndexFunc__Row_band_May_1_L2 := fine_loop sh_slices_IndexFunc__Row_band_May_1_L2 (LP_slices_IndexFunc__Row_band_May_1_L2 I_slices_IndexFunc__Row_band_May_1) (by kernel_rfl) ct_slices_IndexFunc__Row_band_May_1 (cuts0 (fun _ => rfl) (by kernel_rfl)) (fun ps R K => by unfold LP_slices_IndexFunc__Row_band_May_1_L2; split <;> (try unfold slices_IndexFunc__Row_band_May_1_L2) <;> rfl) (s_slices_IndexFunc__Row_band_May_1_L2 I_slices_IndexFunc__Row_band_May_1)
theorem sm_slices_IndexFunc__Row_band_May_1 (g : C_slices_IndexFunc__Row_band_May_1) : Same (SS_slices_IndexFunc__Row_band_May_1 (@slices_IndexFunc__Row_band_May_1_ g)) (abody (E_slices_IndexFunc__Row_band_May_1 g) Tryz.f199 code_199 1 [0] [.asis] g.N) := by intro args; unfold SS_slices_IndexFunc__Row_band_May_1; split; exact .inr fun R k => (by kernel_rfl); exact .inl fun R k => rfl
theorem ok_slices_IndexFunc__Row_band_May_1 [Fuel] : Ok 199 (SS_slices_IndexFunc__Row_band_May_1 (@slices_IndexFunc__Row_band_May_1 _)) := okF_of std (.cons ok_band_May_1 .nil) ⟨rfl, rfl, by kernel_rfl, rfl, rfl, rfl⟩ (sm_slices_IndexFunc__Row_band_May_1 I_slices_IndexFunc__Row_band_May_1) (cutsL (fun _ => rfl) (.cons lf_slices_IndexFunc__Row_band_May_1_L2 .nil) (by kernel_rfl)) Tryz.func199 (by kernel_rfl) (by kernel_rfl)
abbrev T_slices_ContainsFunc__Row_band_May_1 : Type 1 := List G_Row → G_Row → {R : Type} → (Bool → G_Row → Option R) → Option R
structure C_slices_ContainsFunc__Row_band_May_1 where
 N : Nat
 slices_IndexFunc__Row_band_May_1 : T_slices_IndexFunc__Row_band_May_1
def slices_ContainsFunc__Row_band_May_1_ (g : C_slices_ContainsFunc__Row_band_May_1) (a1 : List G_Row) (a2 : G_Row) {R : Type} (k0 : Bool → G_Row → Option R) : Option R :=
 (g.slices_IndexFunc__Row_band_May_1 a1 a2 (fun r3 r4 => k0 (decide (r3 ≥ 0)) r4))
noncomputable def I_slices_ContainsFunc__Row_band_May_1 [Fuel] : C_slices_ContainsFunc__Row_band_May_1 := ⟨NN, @slices_IndexFunc__Row_band_May_1 _⟩
noncomputable def slices_ContainsFunc__Row_band_May_1 [Fuel] : T_slices_ContainsFunc__Row_band_May_1 := @slices_ContainsFunc__Row_band_May_1_ I_slices_ContainsFunc__Row_band_May_1
def SS_slices_ContainsFunc__Row_band_May_1 (g : T_slices_ContainsFunc__Row_band_May_1) : Spec A := fun args => match args with | [.d (.sl 173 a1), .fn 156 [.box [.d (.int .i64 a2), .d (.int .i64 a3)]]] => fun k => g a1 ⟨a2, a3⟩ (fun z0 z1 => k (.d (.bool z0)) [.undef, .fn 156 [.box [.d (.int .i64 z1.f_From), .d (.int .i64 z1.f_To)]]]) | _ => fun _ => none
noncomputable def code_154 : Code := (Tryz.f154.body).getD .skip
noncomputable def E_slices_ContainsFunc__Row_band_May_1 (g : C_slices_ContainsFunc__Row_band_May_1) : Env A := mkE [(199, SS_slices_IndexFunc__Row_band_May_1 g.slices_IndexFunc__Row_band_May_1)] [] [] [] [] [] [] [] [(199, 0)] [1]
theorem sm_slices_ContainsFunc__Row_band_May_1 (g : C_slices_ContainsFunc__Row_band_May_1) : Same (SS_slices_ContainsFunc__Row_band_May_1 (@slices_ContainsFunc__Row_band_May_1_ g)) (abody (E_slices_ContainsFunc__Row_band_May_1 g) Tryz.f154 code_154 1 [0] [.asis] g.N) := by intro args; unfold SS_slices_ContainsFunc__Row_band_May_1; split; exact .inr fun R k => (by kernel_rfl); exact .inl fun R k => rfl
theorem ok_slices_ContainsFunc__Row_band_May_1 [Fuel] : Ok 154 (SS_slices_ContainsFunc__Row_band_May_1 (@slices_ContainsFunc__Row_band_May_1 _)) := okF_of std (.cons ok_slices_IndexFunc__Row_band_May_1 .nil) ⟨rfl, rfl, by kernel_rfl, rfl, rfl, rfl⟩ (sm_slices_ContainsFunc__Row_band_May_1 I_slices_ContainsFunc__Row_band_May_1) (cuts0 (fun _ => rfl) (by kernel_rfl)) Tryz.func154 (by kernel_rfl) (by kernel_rfl)
abbrev T_band_May : Type 1 := List G_Segment → List UInt8 → Int → Int → Int → Int → {R : Type} → (Bool → Int → Option R) → Option R
structure C_band_May where
 N : Nat
 kit_IsMoment : T_kit_IsMoment
 kit_Outside : T_kit_Outside
 kit_IsMode : T_kit_IsMode
 kit_IsKey : T_kit_IsKey
 band_CheckSegments : T_band_CheckSegments
 band_used : T_band_used
 slices_ContainsFunc__Row_band_May_1 : T_slices_ContainsFunc__Row_band_May_1
 band_permitted : T_band_permitted
def band_May_ (g : C_band_May) (a1 : List G_Segment) (a2 : List UInt8) (a3 a4 a5 a6 : Int) {R : Type} (k0 : Bool → Int → Option R) : Option R :=
 (g.band_CheckSegments a1 (fun r7 => (bif (r7 != 0) then k0 false r7 else (g.kit_IsKey a2 (fun r8 => (bif (!r8) then k0 false 5 else (g.kit_Outside a3 0 30000000000 (fun r9 => (bif r9 then k0 false 1 else (g.kit_Outside a4 1 100000 (fun r10 => (bif r10 then k0 false 1 else (g.kit_IsMode a5 (fun r11 => (bif (!r11) then k0 false 4 else (g.kit_IsMoment a6 (fun r12 => (bif (!r12) then k0 false 1 else (g.band_used a3 a4 (fun r13 => (g.band_permitted a1 a2 a5 a6 (fun r14 => (g.slices_ContainsFunc__Row_band_May_1 r14 r13 (fun r15 r16 => k0 r15 0))))))))))))))))))))))))
noncomputable def I_band_May [Fuel] : C_band_May := ⟨NN, @kit_IsMoment _, @kit_Outside _, @kit_IsMode _, @kit_IsKey _, @band_CheckSegments _, @band_used _, @slices_ContainsFunc__Row_band_May_1 _, @band_permitted _⟩
noncomputable def band_May [Fuel] : T_band_May := @band_May_ I_band_May
def SS_band_May (g : T_band_May) : Spec A := fun args => match args with | [.d (.sl 135 a1), .d (.str a2), .d (.int .i64 a3), .d (.int .i64 a4), .d (.int .i64 a5), .d (.int .i64 a6)] => fun k => g a1 a2 a3 a4 a5 a6 (fun z0 z1 => k (.tup [.d (.bool z0), .d (.int .i64 z1)]) [.undef, .undef, .undef, .undef, .undef, .undef]) | _ => fun _ => none
noncomputable def code_103 : Code := (Tryz.f103.body).getD .skip
noncomputable def E_band_May (g : C_band_May) : Env A := mkE [(133, SS_kit_IsMoment g.kit_IsMoment), (134, SS_kit_Outside g.kit_Outside), (135, SS_kit_IsMode g.kit_IsMode), (137, SS_kit_IsKey g.kit_IsKey), (152, SS_band_CheckSegments g.band_CheckSegments), (153, SS_band_used g.band_used), (154, SS_slices_ContainsFunc__Row_band_May_1 g.slices_ContainsFunc__Row_band_May_1), (155, SS_band_permitted g.band_permitted)] [(15, [0]), (47, [1])] [] [] [] [] [] [] [] []
theorem sm_band_May (g : C_band_May) : Same (SS_band_May (@band_May_ g)) (abody (E_band_May g) Tryz.f103 code_103 2 [] [.asis, .asis] g.N) := by intro args; unfold SS_band_May; split; exact .inr fun R k => (by kernel_rfl); exact .inl fun R k => rfl
theorem ok_band_May [Fuel] : Ok 103 (SS_band_May (@band_May _)) := okF_of std (.cons ok_kit_IsMoment (.cons ok_kit_Outside (.cons ok_kit_IsMode (.cons ok_kit_IsKey (.cons ok_band_CheckSegments (.cons ok_band_used (.cons ok_slices_ContainsFunc__Row_band_May_1 (.cons ok_band_permitted .nil)))))))) ⟨rfl, rfl, by kernel_rfl, rfl, rfl, rfl⟩ (sm_band_May I_band_May) (cuts0 (fun _ => rfl) (by kernel_rfl)) Tryz.func103 (by kernel_rfl) (by kernel_rfl)
abbrev T_law_banded : Type 1 := {R : Type} → (Bool → Option R) → Option R
structure C_law_banded where
 N : Nat
 band_May : T_band_May
def law_banded_ (g : C_law_banded)  {R : Type} (k0 : Bool → Option R) : Option R :=
 (g.band_May [(⟨[99], 5, 8, [1], (⟨0, 9⟩ : G_Window)⟩ : G_Segment)] [99] 6 3 1 0 (fun r1 r2 => (bif (r2 == 0) then k0 r1 else k0 false)))
noncomputable def I_law_banded [Fuel] : C_law_banded := ⟨NN, @band_May _⟩
noncomputable def law_banded [Fuel] : T_law_banded := @law_banded_ I_law_banded
def SS_law_banded (g : T_law_banded) : Spec A := fun args => match args with | [] => fun k => g (fun z0 => k (.d (.bool z0)) []) | _ => fun _ => none
noncomputable def code_34 : Code := (Tryz.f34.body).getD .skip
noncomputable def E_law_banded (g : C_law_banded) : Env A := mkE [(103, SS_band_May g.band_May)] [(4, [0]), (7, [1])] [] [] [] [] [] [] [] []
theorem sm_law_banded (g : C_law_banded) : Same (SS_law_banded (@law_banded_ g)) (abody (E_law_banded g) Tryz.f34 code_34 2 [] [.asis] g.N) := by intro args; unfold SS_law_banded; split; exact .inr fun R k => (by kernel_rfl); exact .inl fun R k => rfl
theorem ok_law_banded [Fuel] : Ok 34 (SS_law_banded (@law_banded _)) := okF_of std (.cons ok_band_May .nil) ⟨rfl, rfl, by kernel_rfl, rfl, rfl, rfl⟩ (sm_law_banded I_law_banded) (cuts0 (fun _ => rfl) (by kernel_rfl)) Tryz.func34 (by kernel_rfl) (by kernel_rfl)
end Go.Am
