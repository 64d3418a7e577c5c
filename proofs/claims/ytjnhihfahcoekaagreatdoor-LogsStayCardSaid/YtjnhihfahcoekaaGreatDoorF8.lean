/- The functions of the program as Lean functions, each shown to be what the code computes, part 8. No condition: lemmas for the claim. -/
import Derived.Test.YtjnhihfahcoekaaGreatDoorF0
import Derived.Test.YtjnhihfahcoekaaGreatDoorFSh
import Derived.Test.YtjnhihfahcoekaaGreatDoorF1
import Derived.Test.YtjnhihfahcoekaaGreatDoorF4
import Derived.Test.YtjnhihfahcoekaaGreatDoorF5
set_option linter.unusedVariables false
set_option maxRecDepth 100000
namespace Go.Am
open Go Go.Proofs
abbrev T_z42z : Type 1 := List G_Change → List G_Change → {R : Type} → (Bool → Option R) → Option R
def z42z_L4 (g : Nat) : Nat → List G_Change → List G_Change → Int → Int → {R : Type} → (Bool → Option R) → Option R → Option R
 | 0, _, _, _, _, _, _, _ => none
 | n + 1, v3, v4, v5, v6, _, e0, e1 => (bif (decide (v6 < v5)) then (get_ v3 v6 fun x9 => (get_ v4 v6 fun x10 => (bif (!(eq_G_Change x9 x10)) then e0 false else z42z_L4 g n v3 v4 v5 (w64 (v6 + 1)) e0 e1))) else e1)
def z42z_ (g : Nat) (a1 a2 : List G_Change) {R : Type} (k0 : Bool → Option R) : Option R :=
 (bif ((a1.length : Int) != (a2.length : Int)) then k0 false else (z42z_L4 g g a1 a2 (a1.length : Int) 0 (fun e11 => k0 e11) (k0 true)))
noncomputable def z42z [Fuel] : T_z42z := @z42z_ NN
def SS_z42z (g : T_z42z) : Spec A := fun args => match args with | [.d (.sl 42 a1), .d (.sl 42 a2)] => fun k => g a1 a2 (fun z0 => k (.d (.bool z0)) [.undef, .undef]) | _ => fun _ => none
def sh_z42z_L4 : SSt := mkSh 26 0 [(0, .sl 42), (1, .sl 42), (12, .int .i64), (13, .int .i64)] []
def LP_z42z_L4 (g : Nat) (n : Nat) : LPT A := fun ps => match ps with | [.d (.sl 42 p1), .d (.sl 42 p2), .d (.int .i64 p3), .d (.int .i64 p4)] => fun K => z42z_L4 g n p1 p2 p3 p4 (fun z0 => K .ret (mkSt 26 0 [(4, .d (.bool z0))] [])) (K (.exit 0) (mkSt 26 0 [] [])) | _ => fun _ => none
noncomputable def code_12 : Code := (Tryz.f12.body).getD .skip
noncomputable def E_z42z (g : Nat) : Env A := mkE [] [] [(4, ⟨[0, 1, 12, 13], [], [], [], [], []⟩)] [(4, ⟨[4], [], [], [], [], []⟩)] [(4, pieceOf sh_z42z_L4 (LP_z42z_L4 g g))] [] [] [] [] []
theorem ct_z42z [Fuel] : NatTab (E_z42z NN).C := ct_of (P := Tryz.prog) (T := T) .nil (by kernel_rfl)
noncomputable def cb_z42z_L4 : Code := sub [1, 1, 0, 1, 0, 0] code_12
theorem s_z42z_L4 (g : Nat) (n : Nat) : StepOk (E_z42z g) g cb_z42z_L4 sh_z42z_L4 (LP_z42z_L4 g) n := by intro ps; unfold LP_z42z_L4; split; exact .inr fun R K => (by kernel_rfl); exact .inl fun R K => rfl
theorem lf_z42z_L4 [Fuel] : LoopFine (E_z42z NN) NN cb_z42z_L4 := fine_loop sh_z42z_L4 (LP_z42z_L4 NN) (by kernel_rfl) ct_z42z (cuts0 (fun _ => rfl) (by kernel_rfl)) (fun ps R K => by unfold LP_z42z_L4; split <;> (try unfold z42z_L4) <;> rfl) (s_z42z_L4 NN)
theorem sm_z42z (g : Nat) : Same (SS_z42z (@z42z_ g)) (abody (E_z42z g) Tryz.f12 code_12 0 [] [.asis] g) := by intro args; unfold SS_z42z; split; exact .inr fun R k => (by kernel_rfl); exact .inl fun R k => rfl
theorem ok_z42z [Fuel] : Ok 12 (SS_z42z (@z42z _)) := okF_of std .nil ⟨rfl, rfl, by kernel_rfl, rfl, rfl, rfl⟩ (sm_z42z NN) (cutsL (fun _ => rfl) (.cons lf_z42z_L4 .nil) (by kernel_rfl)) Tryz.func12 (by kernel_rfl) (by kernel_rfl)
abbrev T_z90z : Type 1 := List UInt8 → {R : Type} → (List UInt8 → Option R) → Option R
structure C_z90z where
 N : Nat
 call_Parts : T_call_Parts
def z90z_ (g : C_z90z) (a1 : List UInt8) {R : Type} (k0 : List UInt8 → Option R) : Option R :=
 (g.call_Parts a1 (fun r2 r3 => k0 r2.f_Base))
noncomputable def I_z90z [Fuel] : C_z90z := ⟨NN, @call_Parts _⟩
noncomputable def z90z [Fuel] : T_z90z := @z90z_ I_z90z
def SS_z90z (g : T_z90z) : Spec A := fun args => match args with | [.d (.str a1)] => fun k => g a1 (fun z0 => k (.d (.str z0)) [.undef]) | _ => fun _ => none
noncomputable def code_89 : Code := (Tryz.f89.body).getD .skip
noncomputable def E_z90z (g : C_z90z) : Env A := mkE [(110, SS_call_Parts g.call_Parts)] [(3, [0])] [] [] [] [] [] [] [] []
theorem sm_z90z (g : C_z90z) : Same (SS_z90z (@z90z_ g)) (abody (E_z90z g) Tryz.f89 code_89 1 [] [.asis] g.N) := by intro args; unfold SS_z90z; split; exact .inr fun R k => (by kernel_rfl); exact .inl fun R k => rfl
theorem ok_z90z [Fuel] : Ok 89 (SS_z90z (@z90z _)) := okF_of std (.cons ok_call_Parts .nil) ⟨rfl, rfl, by kernel_rfl, rfl, rfl, rfl⟩ (sm_z90z I_z90z) (cuts0 (fun _ => rfl) (by kernel_rfl)) Tryz.func89 (by kernel_rfl) (by kernel_rfl)
abbrev T_log_dupes : Type 1 := List G_Contact → {R : Type} → (List Int → Option R) → Option R
structure C_log_dupes where
 N : Nat
 z90z : T_z90z
def log_dupes_L4 (g : C_log_dupes) : Nat → List G_Contact → Int → Int → List (G_log_worked × Bool) → List Int → {R : Type} → (List Int → Option R) → Option R
 | 0, _, _, _, _, _, _, _ => none
 | n + 1, v2, v3, v4, v5, v6, _, e0 => (bif (decide (v4 < v3)) then (get_ v2 v4 fun x9 => (g.z90z x9.f_Call (fun r10 => (bif ((mget_log_worked_bool (⟨r10, x9.f_Band, x9.f_Mode⟩ : G_log_worked) v5).getD false) then (bif (decide ((v6.length + [v4].length) * 8 ≤ roomBytes')) then log_dupes_L4 g n v2 v3 (w64 (v4 + 1)) (mset_log_worked_bool (⟨r10, x9.f_Band, x9.f_Mode⟩ : G_log_worked) true v5) (v6 ++ [v4]) e0 else none) else log_dupes_L4 g n v2 v3 (w64 (v4 + 1)) (mset_log_worked_bool (⟨r10, x9.f_Band, x9.f_Mode⟩ : G_log_worked) true v5) v6 e0)))) else e0 v6)
def log_dupes_ (g : C_log_dupes) (a1 : List G_Contact) {R : Type} (k0 : List Int → Option R) : Option R :=
 (log_dupes_L4 g g.N a1 (a1.length : Int) 0 [] [] (fun e11 => k0 e11))
noncomputable def I_log_dupes [Fuel] : C_log_dupes := ⟨NN, @z90z _⟩
noncomputable def log_dupes [Fuel] : T_log_dupes := @log_dupes_ I_log_dupes
def SS_log_dupes (g : T_log_dupes) : Spec A := fun args => match args with | [.d (.sl 35 a1)] => fun k => g a1 (fun z0 => k (.arr 3 z0) [.undef]) | _ => fun _ => none
def sh_log_dupes_L4 : SSt := mkSh 35 6 [(3, .mp 0), (4, .own 3 1), (9, .sl 35), (10, .int .i64), (11, .int .i64)] [(0, .mp 132 4), (1, .row 3)]
def LP_log_dupes_L4 (g : C_log_dupes) (n : Nat) : LPT A := fun ps => match ps with | [.d (.sl 35 p1), .d (.int .i64 p2), .d (.int .i64 p3), .mp 132 4 p4, .d (.sl 3 p5)] => fun K => log_dupes_L4 g n p1 p2 p3 p4 p5 (fun z0 => K (.exit 0) (mkSt 35 6 [(4, .own 3 1)] [(1, some (.row 3 z0))])) | _ => fun _ => none
noncomputable def code_56 : Code := (Tryz.f56.body).getD .skip
noncomputable def E_log_dupes (g : C_log_dupes) : Env A := mkE [(89, SS_z90z g.z90z)] [(6, [2]), (7, [3]), (8, [0]), (29, [4]), (30, [5])] [(4, ⟨[3, 4, 9, 10, 11], [(4, 3, 1)], [0], [], [], []⟩)] [(4, ⟨[4], [], [1], [], [], []⟩)] [(4, pieceOf sh_log_dupes_L4 (LP_log_dupes_L4 g g.N))] [] [] [] [] []
theorem ct_log_dupes [Fuel] : NatTab (E_log_dupes I_log_dupes).C := ct_of (P := Tryz.prog) (T := T) (.cons ok_z90z .nil) (by kernel_rfl)
noncomputable def cb_log_dupes_L4 : Code := sub [1, 1, 1, 0, 1, 0, 0] code_56
theorem s_log_dupes_L4 (g : C_log_dupes) (n : Nat) : StepOk (E_log_dupes g) g.N cb_log_dupes_L4 sh_log_dupes_L4 (LP_log_dupes_L4 g) n := by intro ps; unfold LP_log_dupes_L4; split; exact .inr fun R K => (by kernel_rfl); exact .inl fun R K => rfl
theorem lf_log_dupes_L4 [Fuel] : LoopFine (E_log_dupes I_log_dupes) NN cb_log_dupes_L4 := fine_loop sh_log_dupes_L4 (LP_log_dupes_L4 I_log_dupes) (by kernel_rfl) ct_log_dupes (cuts0 (fun _ => rfl) (by kernel_rfl)) (fun ps R K => by unfold LP_log_dupes_L4; split <;> (try unfold log_dupes_L4) <;> rfl) (s_log_dupes_L4 I_log_dupes)
theorem sm_log_dupes (g : C_log_dupes) : Same (SS_log_dupes (@log_dupes_ g)) (abody (E_log_dupes g) Tryz.f56 code_56 6 [] [.arr 3] g.N) := by intro args; unfold SS_log_dupes; split; exact .inr fun R k => (by kernel_rfl); exact .inl fun R k => rfl
theorem ok_log_dupes [Fuel] : Ok 56 (SS_log_dupes (@log_dupes _)) := okF_of std (.cons ok_z90z .nil) ⟨rfl, rfl, by kernel_rfl, rfl, rfl, rfl⟩ (sm_log_dupes I_log_dupes) (cutsL (fun _ => rfl) (.cons lf_log_dupes_L4 .nil) (by kernel_rfl)) Tryz.func56 (by kernel_rfl) (by kernel_rfl)
abbrev T_log_Dupes : Type 1 := List G_Contact → {R : Type} → (List Int → Int → Option R) → Option R
structure C_log_Dupes where
 N : Nat
 z13z : T_z13z
 log_dupes : T_log_dupes
def log_Dupes_ (g : C_log_Dupes) (a1 : List G_Contact) {R : Type} (k0 : List Int → Int → Option R) : Option R :=
 (g.z13z a1 (fun r2 => (bif (r2 != 0) then k0 [] r2 else (g.log_dupes a1 (fun r3 => k0 r3 0)))))
noncomputable def I_log_Dupes [Fuel] : C_log_Dupes := ⟨NN, @z13z _, @log_dupes _⟩
noncomputable def log_Dupes [Fuel] : T_log_Dupes := @log_Dupes_ I_log_Dupes
def SS_log_Dupes (g : T_log_Dupes) : Spec A := fun args => match args with | [.d (.sl 35 a1)] => fun k => g a1 (fun z0 z1 => k (.tup [.arr 3 z0, .d (.int .i64 z1)]) [.undef]) | _ => fun _ => none
noncomputable def code_35 : Code := (Tryz.f35.body).getD .skip
noncomputable def E_log_Dupes (g : C_log_Dupes) : Env A := mkE [(27, SS_z13z g.z13z), (56, SS_log_dupes g.log_dupes)] [(11, [0])] [] [] [] [] [] [] [] []
theorem sm_log_Dupes (g : C_log_Dupes) : Same (SS_log_Dupes (@log_Dupes_ g)) (abody (E_log_Dupes g) Tryz.f35 code_35 1 [] [.arr 3, .asis] g.N) := by intro args; unfold SS_log_Dupes; split; exact .inr fun R k => (by kernel_rfl); exact .inl fun R k => rfl
theorem ok_log_Dupes [Fuel] : Ok 35 (SS_log_Dupes (@log_Dupes _)) := okF_of std (.cons ok_z13z (.cons ok_log_dupes .nil)) ⟨rfl, rfl, by kernel_rfl, rfl, rfl, rfl⟩ (sm_log_Dupes I_log_Dupes) (cuts0 (fun _ => rfl) (by kernel_rfl)) Tryz.func35 (by kernel_rfl) (by kernel_rfl)
abbrev T_z35z : Type 1 := List Int → {R : Type} → (Int → Option R) → Option R
structure C_z35z where
 N : Nat
 kit_IsMode : T_kit_IsMode
def z35z_L4 (g : C_z35z) : Nat → List Int → List Int → Int → Int → {R : Type} → (Int → Option R) → Option R → Option R
 | 0, _, _, _, _, _, _, _ => none
 | n + 1, v2, v3, v4, v5, _, e0, e1 => (bif (decide (v5 < v4)) then (get_ v3 v5 fun x9 => (g.kit_IsMode x9 (fun r10 => (bif (!r10) then e0 4 else (bif (decide (v5 > 0)) then (get_ v2 (w64 (v5 - 1)) fun x11 => (bif (decide (x9 ≤ x11)) then e0 7 else z35z_L4 g n v2 v3 v4 (w64 (v5 + 1)) e0 e1)) else z35z_L4 g n v2 v3 v4 (w64 (v5 + 1)) e0 e1))))) else e1)
def z35z_ (g : C_z35z) (a1 : List Int) {R : Type} (k0 : Int → Option R) : Option R :=
 (bif ((a1.length : Int) == 0) then k0 8 else (z35z_L4 g g.N a1 a1 (a1.length : Int) 0 (fun e12 => k0 e12) (k0 0)))
noncomputable def I_z35z [Fuel] : C_z35z := ⟨NN, @kit_IsMode _⟩
noncomputable def z35z [Fuel] : T_z35z := @z35z_ I_z35z
def SS_z35z (g : T_z35z) : Spec A := fun args => match args with | [.d (.sl 3 a1)] => fun k => g a1 (fun z0 => k (.d (.int .i64 z0)) [.undef]) | _ => fun _ => none
def sh_z35z_L4 : SSt := mkSh 30 0 [(0, .sl 3), (8, .sl 3), (9, .int .i64), (10, .int .i64)] []
def LP_z35z_L4 (g : C_z35z) (n : Nat) : LPT A := fun ps => match ps with | [.d (.sl 3 p1), .d (.sl 3 p2), .d (.int .i64 p3), .d (.int .i64 p4)] => fun K => z35z_L4 g n p1 p2 p3 p4 (fun z0 => K .ret (mkSt 30 0 [(2, .d (.int .i64 z0))] [])) (K (.exit 0) (mkSt 30 0 [] [])) | _ => fun _ => none
noncomputable def code_90 : Code := (Tryz.f90.body).getD .skip
noncomputable def E_z35z (g : C_z35z) : Env A := mkE [(59, SS_kit_IsMode g.kit_IsMode)] [] [(4, ⟨[0, 8, 9, 10], [], [], [], [], []⟩)] [(4, ⟨[2], [], [], [], [], []⟩)] [(4, pieceOf sh_z35z_L4 (LP_z35z_L4 g g.N))] [] [] [] [] []
theorem ct_z35z [Fuel] : NatTab (E_z35z I_z35z).C := ct_of (P := Tryz.prog) (T := T) (.cons ok_kit_IsMode .nil) (by kernel_rfl)
noncomputable def cb_z35z_L4 : Code := sub [1, 1, 0, 1, 0, 0] code_90
theorem s_z35z_L4 (g : C_z35z) (n : Nat) : StepOk (E_z35z g) g.N cb_z35z_L4 sh_z35z_L4 (LP_z35z_L4 g) n := by intro ps; unfold LP_z35z_L4; split; exact .inr fun R K => (by kernel_rfl); exact .inl fun R K => rfl
theorem lf_z35z_L4 [Fuel] : LoopFine (E_z35z I_z35z) NN cb_z35z_L4 := fine_loop sh_z35z_L4 (LP_z35z_L4 I_z35z) (by kernel_rfl) ct_z35z (cuts0 (fun _ => rfl) (by kernel_rfl)) (fun ps R K => by unfold LP_z35z_L4; split <;> (try unfold z35z_L4) <;> rfl) (s_z35z_L4 I_z35z)
theorem sm_z35z (g : C_z35z) : Same (SS_z35z (@z35z_ g)) (abody (E_z35z g) Tryz.f90 code_90 0 [] [.asis] g.N) := by intro args; unfold SS_z35z; split; exact .inr fun R k => (by kernel_rfl); exact .inl fun R k => rfl
theorem ok_z35z [Fuel] : Ok 90 (SS_z35z (@z35z _)) := okF_of std (.cons ok_kit_IsMode .nil) ⟨rfl, rfl, by kernel_rfl, rfl, rfl, rfl⟩ (sm_z35z I_z35z) (cutsL (fun _ => rfl) (.cons lf_z35z_L4 .nil) (by kernel_rfl)) Tryz.func90 (by kernel_rfl) (by kernel_rfl)
abbrev T_kit_IsTime : Type 1 := G_Window → {R : Type} → (Bool → Option R) → Option R
def kit_IsTime_ (g : Nat) (a1 : G_Window) {R : Type} (k0 : Bool → Option R) : Option R :=
 (bif (decide (a1.f_From ≥ 0)) then (bif (decide (a1.f_From < a1.f_To)) then k0 (decide (a1.f_To ≤ 345686400000)) else k0 false) else k0 false)
noncomputable def kit_IsTime [Fuel] : T_kit_IsTime := @kit_IsTime_ NN
def SS_kit_IsTime (g : T_kit_IsTime) : Spec A := fun args => match args with | [.agg [.d (.int .i64 a1), .d (.int .i64 a2)]] => fun k => g ⟨a1, a2⟩ (fun z0 => k (.d (.bool z0)) [.undef]) | _ => fun _ => none
noncomputable def code_91 : Code := (Tryz.f91.body).getD .skip
noncomputable def E_kit_IsTime (g : Nat) : Env A := mkE [] [(1, [0])] [] [] [] [] [] [] [] []
theorem sm_kit_IsTime (g : Nat) : Same (SS_kit_IsTime (@kit_IsTime_ g)) (abody (E_kit_IsTime g) Tryz.f91 code_91 1 [] [.asis] g) := by intro args; unfold SS_kit_IsTime; split; exact .inr fun R k => (by kernel_rfl); exact .inl fun R k => rfl
theorem ok_kit_IsTime [Fuel] : Ok 91 (SS_kit_IsTime (@kit_IsTime _)) := okF_of std .nil ⟨rfl, rfl, by kernel_rfl, rfl, rfl, rfl⟩ (sm_kit_IsTime NN) (cuts0 (fun _ => rfl) (by kernel_rfl)) Tryz.func91 (by kernel_rfl) (by kernel_rfl)
abbrev T_z61z : Type 1 := G_Segment → G_Segment → {R : Type} → (Int → Option R) → Option R
structure C_z61z where
 N : Nat
 z29z : T_z29z
 z33z : T_z33z
 strings_Compare : T_strings_Compare
def z61z_ (g : C_z61z) (a1 a2 : G_Segment) {R : Type} (k0 : Int → Option R) : Option R :=
 (g.strings_Compare a1.f_Class a2.f_Class (fun r3 => (g.z33z a1.f_Low a2.f_Low (fun r4 => (g.z33z a1.f_High a2.f_High (fun r5 => (g.z33z a1.f_Time.f_From a2.f_Time.f_From (fun r6 => (g.z29z [r3, r4, r5, r6] (fun r7 => k0 r7))))))))))
noncomputable def I_z61z [Fuel] : C_z61z := ⟨NN, @z29z _, @z33z _, @strings_Compare _⟩
noncomputable def z61z [Fuel] : T_z61z := @z61z_ I_z61z
def SS_z61z (g : T_z61z) : Spec A := fun args => match args with | [.agg [.d (.str a1), .d (.int .i64 a2), .d (.int .i64 a3), .d (.sl 3 a4), .d (.int .i64 a5), .d (.int .i64 a6)], .agg [.d (.str a7), .d (.int .i64 a8), .d (.int .i64 a9), .d (.sl 3 a10), .d (.int .i64 a11), .d (.int .i64 a12)]] => fun k => g ⟨a1, a2, a3, a4, ⟨a5, a6⟩⟩ ⟨a7, a8, a9, a10, ⟨a11, a12⟩⟩ (fun z0 => k (.d (.int .i64 z0)) [.undef, .undef]) | _ => fun _ => none
noncomputable def code_92 : Code := (Tryz.f92.body).getD .skip
noncomputable def E_z61z (g : C_z61z) : Env A := mkE [(49, SS_z29z g.z29z), (50, SS_z33z g.z33z), (51, SS_strings_Compare g.strings_Compare)] [(2, [0]), (3, [1]), (27, [2])] [] [] [] [] [] [] [] []
theorem sm_z61z (g : C_z61z) : Same (SS_z61z (@z61z_ g)) (abody (E_z61z g) Tryz.f92 code_92 3 [] [.asis] g.N) := by intro args; unfold SS_z61z; split; exact .inr fun R k => (by kernel_rfl); exact .inl fun R k => rfl
theorem ok_z61z [Fuel] : Ok 92 (SS_z61z (@z61z _)) := okF_of std (.cons ok_z29z (.cons ok_z33z (.cons ok_strings_Compare .nil))) ⟨rfl, rfl, by kernel_rfl, rfl, rfl, rfl⟩ (sm_z61z I_z61z) (cuts0 (fun _ => rfl) (by kernel_rfl)) Tryz.func92 (by kernel_rfl) (by kernel_rfl)
abbrev T_z27z : Type 1 := List G_Segment → {R : Type} → (Int → Option R) → Option R
structure C_z27z where
 N : Nat
 kit_IsKey : T_kit_IsKey
 z35z : T_z35z
 kit_IsTime : T_kit_IsTime
 z61z : T_z61z
def z27z_L4 (g : C_z27z) : Nat → List G_Segment → List G_Segment → Int → Int → {R : Type} → (Int → Option R) → Option R → Option R
 | 0, _, _, _, _, _, _, _ => none
 | n + 1, v2, v3, v4, v5, _, e0, e1 => (bif (decide (v5 < v4)) then (get_ v3 v5 fun x12 => (g.kit_IsKey x12.f_Class (fun r13 => (bif (!r13) then e0 5 else (bif (decide (x12.f_Low < 0)) then e0 1 else (bif (decide (x12.f_Low ≥ x12.f_High)) then e0 1 else (bif (decide (x12.f_High > 30000000000)) then e0 1 else (g.z35z x12.f_Modes (fun r14 => (bif (r14 != 0) then e0 r14 else (g.kit_IsTime x12.f_Time (fun r15 => (bif (!r15) then e0 1 else (bif (decide (v5 > 0)) then (get_ v2 (w64 (v5 - 1)) fun x16 => (g.z61z x16 x12 (fun r17 => (bif (decide (r17 ≥ 0)) then e0 7 else z27z_L4 g n v2 v3 v4 (w64 (v5 + 1)) e0 e1)))) else z27z_L4 g n v2 v3 v4 (w64 (v5 + 1)) e0 e1)))))))))))))) else e1)
def z27z_ (g : C_z27z) (a1 : List G_Segment) {R : Type} (k0 : Int → Option R) : Option R :=
 (bif (decide ((a1.length : Int) > 500)) then k0 2 else (z27z_L4 g g.N a1 a1 (a1.length : Int) 0 (fun e18 => k0 e18) (k0 0)))
noncomputable def I_z27z [Fuel] : C_z27z := ⟨NN, @kit_IsKey _, @z35z _, @kit_IsTime _, @z61z _⟩
noncomputable def z27z [Fuel] : T_z27z := @z27z_ I_z27z
def SS_z27z (g : T_z27z) : Spec A := fun args => match args with | [.d (.sl 69 a1)] => fun k => g a1 (fun z0 => k (.d (.int .i64 z0)) [.undef]) | _ => fun _ => none
def sh_z27z_L4 : SSt := mkSh 58 1 [(0, .sl 69), (9, .sl 69), (10, .int .i64), (11, .int .i64)] []
def LP_z27z_L4 (g : C_z27z) (n : Nat) : LPT A := fun ps => match ps with | [.d (.sl 69 p1), .d (.sl 69 p2), .d (.int .i64 p3), .d (.int .i64 p4)] => fun K => z27z_L4 g n p1 p2 p3 p4 (fun z0 => K .ret (mkSt 58 1 [(2, .d (.int .i64 z0))] [])) (K (.exit 0) (mkSt 58 1 [] [])) | _ => fun _ => none
noncomputable def code_57 : Code := (Tryz.f57.body).getD .skip
noncomputable def E_z27z (g : C_z27z) : Env A := mkE [(58, SS_kit_IsKey g.kit_IsKey), (90, SS_z35z g.z35z), (91, SS_kit_IsTime g.kit_IsTime), (92, SS_z61z g.z61z)] [(4, [0])] [(4, ⟨[0, 9, 10, 11], [], [], [], [], []⟩)] [(4, ⟨[2], [], [], [], [], []⟩)] [(4, pieceOf sh_z27z_L4 (LP_z27z_L4 g g.N))] [] [] [] [] []
theorem ct_z27z [Fuel] : NatTab (E_z27z I_z27z).C := ct_of (P := Tryz.prog) (T := T) (.cons ok_kit_IsKey (.cons ok_z35z (.cons ok_kit_IsTime (.cons ok_z61z .nil)))) (by kernel_rfl)
noncomputable def cb_z27z_L4 : Code := sub [1, 1, 0, 1, 0, 0] code_57
theorem s_z27z_L4 (g : C_z27z) (n : Nat) : StepOk (E_z27z g) g.N cb_z27z_L4 sh_z27z_L4 (LP_z27z_L4 g) n := by intro ps; unfold LP_z27z_L4; split; exact .inr fun R K => (by kernel_rfl); exact .inl fun R K => rfl
theorem lf_z27z_L4 [Fuel] : LoopFine (E_z27z I_z27z) NN cb_z27z_L4 := fine_loop sh_z27z_L4 (LP_z27z_L4 I_z27z) (by kernel_rfl) ct_z27z (cuts0 (fun _ => rfl) (by kernel_rfl)) (fun ps R K => by unfold LP_z27z_L4; split <;> (try unfold z27z_L4) <;> rfl) (s_z27z_L4 I_z27z)
theorem sm_z27z (g : C_z27z) : Same (SS_z27z (@z27z_ g)) (abody (E_z27z g) Tryz.f57 code_57 1 [] [.asis] g.N) := by intro args; unfold SS_z27z; split; exact .inr fun R k => (by kernel_rfl); exact .inl fun R k => rfl
theorem ok_z27z [Fuel] : Ok 57 (SS_z27z (@z27z _)) := okF_of std (.cons ok_kit_IsKey (.cons ok_z35z (.cons ok_kit_IsTime (.cons ok_z61z .nil)))) ⟨rfl, rfl, by kernel_rfl, rfl, rfl, rfl⟩ (sm_z27z I_z27z) (cutsL (fun _ => rfl) (.cons lf_z27z_L4 .nil) (by kernel_rfl)) Tryz.func57 (by kernel_rfl) (by kernel_rfl)
abbrev T_band_used : Type 1 := Int → Int → {R : Type} → (G_Row → Option R) → Option R
def band_used_ (g : Nat) (a1 a2 : Int) {R : Type} (k0 : G_Row → Option R) : Option R :=
 k0 (⟨(w64 (a1 - (w64 (Int.tdiv a2 2)))), (w64 ((w64 (a1 - (w64 (Int.tdiv a2 2)))) + a2))⟩ : G_Row)
noncomputable def band_used [Fuel] : T_band_used := @band_used_ NN
def SS_band_used (g : T_band_used) : Spec A := fun args => match args with | [.d (.int .i64 a1), .d (.int .i64 a2)] => fun k => g a1 a2 (fun z0 => k (.agg [.d (.int .i64 z0.f_From), .d (.int .i64 z0.f_To)]) [.undef, .undef]) | _ => fun _ => none
noncomputable def code_61 : Code := (Tryz.f61.body).getD .skip
noncomputable def E_band_used (g : Nat) : Env A := mkE [] [(4, [0])] [] [] [] [] [] [] [] []
theorem sm_band_used (g : Nat) : Same (SS_band_used (@band_used_ g)) (abody (E_band_used g) Tryz.f61 code_61 1 [] [.asis] g) := by intro args; unfold SS_band_used; split; exact .inr fun R k => (by kernel_rfl); exact .inl fun R k => rfl
theorem ok_band_used [Fuel] : Ok 61 (SS_band_used (@band_used _)) := okF_of std .nil ⟨rfl, rfl, by kernel_rfl, rfl, rfl, rfl⟩ (sm_band_used NN) (cuts0 (fun _ => rfl) (by kernel_rfl)) Tryz.func61 (by kernel_rfl) (by kernel_rfl)
abbrev T_kit_Has : Type 1 := G_Window → Int → {R : Type} → (Bool → Option R) → Option R
def kit_Has_ (g : Nat) (a1 : G_Window) (a2 : Int) {R : Type} (k0 : Bool → Option R) : Option R :=
 (bif (decide (a1.f_From ≤ a2)) then k0 (decide (a2 < a1.f_To)) else k0 false)
noncomputable def kit_Has [Fuel] : T_kit_Has := @kit_Has_ NN
def SS_kit_Has (g : T_kit_Has) : Spec A := fun args => match args with | [.agg [.d (.int .i64 a1), .d (.int .i64 a2)], .d (.int .i64 a3)] => fun k => g ⟨a1, a2⟩ a3 (fun z0 => k (.d (.bool z0)) [.undef, .undef]) | _ => fun _ => none
noncomputable def code_97 : Code := (Tryz.f97.body).getD .skip
noncomputable def E_kit_Has (g : Nat) : Env A := mkE [] [(2, [0])] [] [] [] [] [] [] [] []
theorem sm_kit_Has (g : Nat) : Same (SS_kit_Has (@kit_Has_ g)) (abody (E_kit_Has g) Tryz.f97 code_97 1 [] [.asis] g) := by intro args; unfold SS_kit_Has; split; exact .inr fun R k => (by kernel_rfl); exact .inl fun R k => rfl
theorem ok_kit_Has [Fuel] : Ok 97 (SS_kit_Has (@kit_Has _)) := okF_of std .nil ⟨rfl, rfl, by kernel_rfl, rfl, rfl, rfl⟩ (sm_kit_Has NN) (cuts0 (fun _ => rfl) (by kernel_rfl)) Tryz.func97 (by kernel_rfl) (by kernel_rfl)
abbrev T_z52z : Type 1 := List Int → Int → {R : Type} → (Int → Option R) → Option R
def z52z_L2 (g : Nat) : Nat → List Int → Int → Int → Int → {R : Type} → (Int → Option R) → Option R → Option R
 | 0, _, _, _, _, _, _, _ => none
 | n + 1, v3, v4, v5, v6, _, e0, e1 => (bif (decide (v6 < v5)) then (get_ v3 v6 fun x8 => (bif (v4 == x8) then e0 v6 else z52z_L2 g n v3 v4 v5 (w64 (v6 + 1)) e0 e1)) else e1)
def z52z_ (g : Nat) (a1 : List Int) (a2 : Int) {R : Type} (k0 : Int → Option R) : Option R :=
 (z52z_L2 g g a1 a2 (a1.length : Int) 0 (fun e9 => k0 e9) (k0 (-1)))
noncomputable def z52z [Fuel] : T_z52z := @z52z_ NN
def SS_z52z (g : T_z52z) : Spec A := fun args => match args with | [.d (.sl 3 a1), .d (.int .i64 a2)] => fun k => g a1 a2 (fun z0 => k (.d (.int .i64 z0)) [.undef, .undef]) | _ => fun _ => none
def sh_z52z_L2 : SSt := mkSh 19 0 [(0, .sl 3), (1, .int .i64), (7, .int .i64), (8, .int .i64)] []
def LP_z52z_L2 (g : Nat) (n : Nat) : LPT A := fun ps => match ps with | [.d (.sl 3 p1), .d (.int .i64 p2), .d (.int .i64 p3), .d (.int .i64 p4)] => fun K => z52z_L2 g n p1 p2 p3 p4 (fun z0 => K .ret (mkSt 19 0 [(4, .d (.int .i64 z0))] [])) (K (.exit 0) (mkSt 19 0 [] [])) | _ => fun _ => none
noncomputable def code_124 : Code := (Tryz.f124.body).getD .skip
noncomputable def E_z52z (g : Nat) : Env A := mkE [] [] [(2, ⟨[0, 1, 7, 8], [], [], [], [], []⟩)] [(2, ⟨[4], [], [], [], [], []⟩)] [(2, pieceOf sh_z52z_L2 (LP_z52z_L2 g g))] [] [] [] [] []
theorem ct_z52z [Fuel] : NatTab (E_z52z NN).C := ct_of (P := Tryz.prog) (T := T) .nil (by kernel_rfl)
noncomputable def cb_z52z_L2 : Code := sub [1, 0, 1, 0, 0] code_124
theorem s_z52z_L2 (g : Nat) (n : Nat) : StepOk (E_z52z g) g cb_z52z_L2 sh_z52z_L2 (LP_z52z_L2 g) n := by intro ps; unfold LP_z52z_L2; split; exact .inr fun R K => (by kernel_rfl); exact .inl fun R K => rfl
theorem lf_z52z_L2 [Fuel] : LoopFine (E_z52z NN) NN cb_z52z_L2 := fine_loop sh_z52z_L2 (LP_z52z_L2 NN) (by kernel_rfl) ct_z52z (cuts0 (fun _ => rfl) (by kernel_rfl)) (fun ps R K => by unfold LP_z52z_L2; split <;> (try unfold z52z_L2) <;> rfl) (s_z52z_L2 NN)
theorem sm_z52z (g : Nat) : Same (SS_z52z (@z52z_ g)) (abody (E_z52z g) Tryz.f124 code_124 0 [] [.asis] g) := by intro args; unfold SS_z52z; split; exact .inr fun R k => (by kernel_rfl); exact .inl fun R k => rfl
theorem ok_z52z [Fuel] : Ok 124 (SS_z52z (@z52z _)) := okF_of std .nil ⟨rfl, rfl, by kernel_rfl, rfl, rfl, rfl⟩ (sm_z52z NN) (cutsL (fun _ => rfl) (.cons lf_z52z_L2 .nil) (by kernel_rfl)) Tryz.func124 (by kernel_rfl) (by kernel_rfl)
abbrev T_z60z : Type 1 := List Int → Int → {R : Type} → (Bool → Option R) → Option R
structure C_z60z where
 N : Nat
 z52z : T_z52z
def z60z_ (g : C_z60z) (a1 : List Int) (a2 : Int) {R : Type} (k0 : Bool → Option R) : Option R :=
 (g.z52z a1 a2 (fun r3 => k0 (decide (r3 ≥ 0))))
noncomputable def I_z60z [Fuel] : C_z60z := ⟨NN, @z52z _⟩
noncomputable def z60z [Fuel] : T_z60z := @z60z_ I_z60z
def SS_z60z (g : T_z60z) : Spec A := fun args => match args with | [.d (.sl 3 a1), .d (.int .i64 a2)] => fun k => g a1 a2 (fun z0 => k (.d (.bool z0)) [.undef, .undef]) | _ => fun _ => none
noncomputable def code_96 : Code := (Tryz.f96.body).getD .skip
noncomputable def E_z60z (g : C_z60z) : Env A := mkE [(124, SS_z52z g.z52z)] [] [] [] [] [] [] [] [] []
theorem sm_z60z (g : C_z60z) : Same (SS_z60z (@z60z_ g)) (abody (E_z60z g) Tryz.f96 code_96 0 [] [.asis] g.N) := by intro args; unfold SS_z60z; split; exact .inr fun R k => (by kernel_rfl); exact .inl fun R k => rfl
theorem ok_z60z [Fuel] : Ok 96 (SS_z60z (@z60z _)) := okF_of std (.cons ok_z52z .nil) ⟨rfl, rfl, by kernel_rfl, rfl, rfl, rfl⟩ (sm_z60z I_z60z) (cuts0 (fun _ => rfl) (by kernel_rfl)) Tryz.func96 (by kernel_rfl) (by kernel_rfl)
abbrev T_z55z : Type 1 := G_Row → G_Row → {R : Type} → (Int → Option R) → Option R
def z55z_ (g : Nat) (a1 a2 : G_Row) {R : Type} (k0 : Int → Option R) : Option R :=
 k0 (w64 (a1.f_From - a2.f_From))
noncomputable def z55z [Fuel] : T_z55z := @z55z_ NN
def SS_z55z (g : T_z55z) : Spec A := fun args => match args with | [.agg [.d (.int .i64 a1), .d (.int .i64 a2)], .agg [.d (.int .i64 a3), .d (.int .i64 a4)]] => fun k => g ⟨a1, a2⟩ ⟨a3, a4⟩ (fun z0 => k (.d (.int .i64 z0)) [.undef, .undef]) | _ => fun _ => none
noncomputable def code_126 : Code := (Tryz.f126.body).getD .skip
noncomputable def E_z55z (g : Nat) : Env A := mkE [] [(2, [0]), (3, [1])] [] [] [] [] [] [] [] []
theorem sm_z55z (g : Nat) : Same (SS_z55z (@z55z_ g)) (abody (E_z55z g) Tryz.f126 code_126 2 [] [.asis] g) := by intro args; unfold SS_z55z; split; exact .inr fun R k => (by kernel_rfl); exact .inl fun R k => rfl
theorem ok_z55z [Fuel] : Ok 126 (SS_z55z (@z55z _)) := okF_of std .nil ⟨rfl, rfl, by kernel_rfl, rfl, rfl, rfl⟩ (sm_z55z NN) (cuts0 (fun _ => rfl) (by kernel_rfl)) Tryz.func126 (by kernel_rfl) (by kernel_rfl)
noncomputable def Ed_z55z (g : Nat) : Env A := mkED [] [(2, [0]), (3, [1])] [] [] [] [] [] [] [] []
theorem smd_z55z (g : Nat) : Same (SS_z55z (@z55z_ g)) (abody (Ed_z55z g) Tryz.f126 code_126 2 [] [.asis] g) := by intro args; unfold SS_z55z; split; exact .inr fun R k => (by kernel_rfl); exact .inl fun R k => rfl
theorem okd_z55z [Fuel] : OkD 126 (SS_z55z (@z55z _)) := okF_of stdD .nil ⟨rfl, rfl, by kernel_rfl, rfl, rfl, rfl⟩ (smd_z55z NN) (cuts0 (fun _ => rfl) (by kernel_rfl)) Tryz.func126 (by kernel_rfl) (by kernel_rfl)
abbrev T_z46z : Type 1 := List G_Row → {R : Type} → (List G_Row → Option R) → Option R
noncomputable def z46z [Fuel] : T_z46z := @X_sortf G_Row (@z55z _)
def SS_z46z (g : T_z46z) : Spec A := fun args => match args with | [.arr 101 a1, .fn 126 []] => fun k => g a1 (fun z => k (.tup []) [.arr 101 z, .fn 126 []]) | _ => fun _ => none
theorem h1_z46z [Fuel] (xs : List (A 101)) (R : Type) (k : IV A → List (IV A) → Option R) : SS_z46z (@z46z _) [.arr 101 xs, .fn 126 []] k = X_sortf (α := A 101) (@z55z _) xs (fun z => k (.tup []) [.arr 101 z, .fn 126 []]) := by kernel_rfl
theorem h2_z46z [Fuel] (args : List (IV A)) (R : Type) (k : IV A → List (IV A) → Option R) (h : ∀ xs : List (A 101), args ≠ [.arr 101 xs, .fn 126 []]) : SS_z46z (@z46z _) args k = none := by unfold SS_z46z; split; exact absurd rfl (h _); rfl
theorem hc_z46z [Fuel] (x y : A 101) (R : Type) (k : Int → Option R) : callOf T (SS_z55z (@z55z _)) 101 x y k = @z55z _ x y R k := by kernel_rfl
theorem hs_z46z (x : G_Row) : (enc_e101 x).all scal = true := rfl
theorem ok_z46z [Fuel] : Ok 125 (SS_z46z (@z46z _)) := ⟨sortf_sound (tyOk Tryz.prog) (e := 101) Tryz.sortf125 Tryz.isAgg101 Tryz.sizeOf101 (fun x d hd => List.all_eq_true.1 (hs_z46z x) d hd) hc_z46z okd_z55z.fs okd_z55z.en h1_z46z h2_z46z, sortf_na (e := 101) h1_z46z h2_z46z, enters_of (fn := Tryz.f125) Tryz.func125 (by kernel_rfl) (by kernel_rfl)⟩
abbrev T_z18z : Type 1 := List G_Row → {R : Type} → (List G_Row → Option R) → Option R
structure C_z18z where
 N : Nat
 z46z : T_z46z
def z18z_L4 (g : C_z18z) : Nat → Int → Int → List G_Row → List G_Row → {R : Type} → (List G_Row → Option R) → Option R
 | 0, _, _, _, _, _, _ => none
 | n + 1, v3, v4, v5, v6, _, e0 => (bif (decide (v4 < v3)) then (inr v5 v4 (at_ v5 v4 fun x11 => (bif (decide ((w64 ((v6.length : Int) - 1)) ≥ 0)) then (inr v6 (w64 ((v6.length : Int) - 1)) (at_ v6 (w64 ((v6.length : Int) - 1)) fun x12 => (bif (decide (x11.f_From ≤ x12.f_To)) then (inr v6 (w64 ((v6.length : Int) - 1)) (at_ v6 (w64 ((v6.length : Int) - 1)) fun x13 => (inr v6 (w64 ((v6.length : Int) - 1)) (at_ v6 (w64 ((v6.length : Int) - 1)) fun x14 => z18z_L4 g n v3 (w64 (v4 + 1)) v5 (set_ v6 (w64 ((v6.length : Int) - 1)) (⟨x14.f_From, (if x11.f_To > x13.f_To then x11.f_To else x13.f_To)⟩ : G_Row)) e0)))) else (bif (decide ((v6.length + [x11].length) * 16 ≤ roomBytes')) then z18z_L4 g n v3 (w64 (v4 + 1)) v5 (v6 ++ [x11]) e0 else none)))) else (bif (decide ((v6.length + [x11].length) * 16 ≤ roomBytes')) then z18z_L4 g n v3 (w64 (v4 + 1)) v5 (v6 ++ [x11]) e0 else none)))) else e0 v6)
def z18z_ (g : C_z18z) (a1 : List G_Row) {R : Type} (k0 : List G_Row → Option R) : Option R :=
 (g.z46z a1 (fun r2 => (z18z_L4 g g.N (r2.length : Int) 0 r2 [] (fun e15 => k0 e15))))
noncomputable def I_z18z [Fuel] : C_z18z := ⟨NN, @z46z _⟩
noncomputable def z18z [Fuel] : T_z18z := @z18z_ I_z18z
def SS_z18z (g : T_z18z) : Spec A := fun args => match args with | [.arr 101 a1] => fun k => g a1 (fun z0 => k (.arr 101 z0) [.undef]) | _ => fun _ => none
def sh_z18z_L4 : SSt := mkSh 48 5 [(3, .own 101 1), (9, .own 101 0), (10, .int .i64), (11, .int .i64)] [(0, .row 101), (1, .row 101)]
def LP_z18z_L4 (g : C_z18z) (n : Nat) : LPT A := fun ps => match ps with | [.d (.int .i64 p1), .d (.int .i64 p2), .d (.sl 101 p3), .d (.sl 101 p4)] => fun K => z18z_L4 g n p1 p2 p3 p4 (fun z0 => K (.exit 0) (mkSt 48 5 [(3, .own 101 1)] [(1, some (.row 101 z0))])) | _ => fun _ => none
noncomputable def code_98 : Code := (Tryz.f98.body).getD .skip
noncomputable def E_z18z (g : C_z18z) : Env A := mkE [(125, SS_z46z g.z46z)] [(5, [2]), (44, [3]), (45, [4])] [(4, ⟨[3, 9, 10, 11], [(3, 101, 1)], [0], [], [], []⟩)] [(4, ⟨[3], [], [1], [], [], []⟩)] [(4, pieceOf sh_z18z_L4 (LP_z18z_L4 g g.N))] [] [] [] [(125, 0)] []
theorem ct_z18z [Fuel] : NatTab (E_z18z I_z18z).C := ct_of (P := Tryz.prog) (T := T) (.cons ok_z46z .nil) (by kernel_rfl)
noncomputable def cb_z18z_L4 : Code := sub [1, 1, 1, 0, 1, 0, 0] code_98
theorem s_z18z_L4 (g : C_z18z) (n : Nat) : StepOk (E_z18z g) g.N cb_z18z_L4 sh_z18z_L4 (LP_z18z_L4 g) n := by intro ps; unfold LP_z18z_L4; split; exact .inr fun R K => (by kernel_rfl); exact .inl fun R K => rfl
theorem lf_z18z_L4 [Fuel] : LoopFine (E_z18z I_z18z) NN cb_z18z_L4 := fine_loop sh_z18z_L4 (LP_z18z_L4 I_z18z) (by kernel_rfl) ct_z18z (cuts0 (fun _ => rfl) (by kernel_rfl)) (fun ps R K => by unfold LP_z18z_L4; split <;> (try unfold z18z_L4) <;> rfl) (s_z18z_L4 I_z18z)
theorem sm_z18z (g : C_z18z) : Same (SS_z18z (@z18z_ g)) (abody (E_z18z g) Tryz.f98 code_98 5 [0] [.arr 101] g.N) := by intro args; unfold SS_z18z; split; exact .inr fun R k => (by kernel_rfl); exact .inl fun R k => rfl
theorem ok_z18z [Fuel] : Ok 98 (SS_z18z (@z18z _)) := okF_of std (.cons ok_z46z .nil) ⟨rfl, rfl, by kernel_rfl, rfl, rfl, rfl⟩ (sm_z18z I_z18z) (cutsL (fun _ => rfl) (.cons lf_z18z_L4 .nil) (by kernel_rfl)) Tryz.func98 (by kernel_rfl) (by kernel_rfl)
abbrev T_z37z : Type 1 := List G_Segment → List UInt8 → Int → Int → {R : Type} → (List G_Row → Option R) → Option R
structure C_z37z where
 N : Nat
 z60z : T_z60z
 kit_Has : T_kit_Has
 z18z : T_z18z
def z37z_L3 (g : C_z37z) : Nat → List UInt8 → Int → Int → List G_Segment → Int → Int → List G_Row → {R : Type} → (List G_Row → Option R) → Option R
 | 0, _, _, _, _, _, _, _, _, _ => none
 | n + 1, v5, v6, v7, v8, v9, v10, v11, _, e0 => (bif (decide (v10 < v9)) then (get_ v8 v10 fun x16 => (bif (x16.f_Class == v5) then (bif (v6 == 0) then (g.kit_Has x16.f_Time v7 (fun r17 => (bif r17 then (bif (decide ((v11.length + [(⟨x16.f_Low, x16.f_High⟩ : G_Row)].length) * 16 ≤ roomBytes')) then z37z_L3 g n v5 v6 v7 v8 v9 (w64 (v10 + 1)) (v11 ++ [(⟨x16.f_Low, x16.f_High⟩ : G_Row)]) e0 else none) else z37z_L3 g n v5 v6 v7 v8 v9 (w64 (v10 + 1)) v11 e0))) else (g.z60z x16.f_Modes v6 (fun r18 => (bif r18 then (g.kit_Has x16.f_Time v7 (fun r19 => (bif r19 then (bif (decide ((v11.length + [(⟨x16.f_Low, x16.f_High⟩ : G_Row)].length) * 16 ≤ roomBytes')) then z37z_L3 g n v5 v6 v7 v8 v9 (w64 (v10 + 1)) (v11 ++ [(⟨x16.f_Low, x16.f_High⟩ : G_Row)]) e0 else none) else z37z_L3 g n v5 v6 v7 v8 v9 (w64 (v10 + 1)) v11 e0))) else z37z_L3 g n v5 v6 v7 v8 v9 (w64 (v10 + 1)) v11 e0)))) else z37z_L3 g n v5 v6 v7 v8 v9 (w64 (v10 + 1)) v11 e0)) else e0 v11)
def z37z_ (g : C_z37z) (a1 : List G_Segment) (a2 : List UInt8) (a3 a4 : Int) {R : Type} (k0 : List G_Row → Option R) : Option R :=
 (z37z_L3 g g.N a2 a3 a4 a1 (a1.length : Int) 0 [] (fun e20 => (g.z18z e20 (fun r21 => k0 r21))))
noncomputable def I_z37z [Fuel] : C_z37z := ⟨NN, @z60z _, @kit_Has _, @z18z _⟩
noncomputable def z37z [Fuel] : T_z37z := @z37z_ I_z37z
def SS_z37z (g : T_z37z) : Spec A := fun args => match args with | [.d (.sl 69 a1), .d (.str a2), .d (.int .i64 a3), .d (.int .i64 a4)] => fun k => g a1 a2 a3 a4 (fun z0 => k (.arr 101 z0) [.undef, .undef, .undef, .undef]) | _ => fun _ => none
def sh_z37z_L3 : SSt := mkSh 49 5 [(1, .str), (2, .int .i64), (3, .int .i64), (9, .own 101 0), (12, .sl 69), (13, .int .i64), (14, .int .i64)] [(0, .row 101)]
def LP_z37z_L3 (g : C_z37z) (n : Nat) : LPT A := fun ps => match ps with | [.d (.str p1), .d (.int .i64 p2), .d (.int .i64 p3), .d (.sl 69 p4), .d (.int .i64 p5), .d (.int .i64 p6), .d (.sl 101 p7)] => fun K => z37z_L3 g n p1 p2 p3 p4 p5 p6 p7 (fun z0 => K (.exit 0) (mkSt 49 5 [(9, .own 101 0)] [(0, some (.row 101 z0))])) | _ => fun _ => none
noncomputable def code_63 : Code := (Tryz.f63.body).getD .skip
noncomputable def E_z37z (g : C_z37z) : Env A := mkE [(96, SS_z60z g.z60z), (97, SS_kit_Has g.kit_Has), (98, SS_z18z g.z18z)] [(11, [1]), (44, [2]), (45, [3]), (48, [4])] [(3, ⟨[1, 2, 3, 9, 12, 13, 14], [(9, 101, 0)], [], [], [], []⟩)] [(3, ⟨[9], [], [0], [], [], []⟩)] [(3, pieceOf sh_z37z_L3 (LP_z37z_L3 g g.N))] [] [] [] [(98, 0)] []
theorem ct_z37z [Fuel] : NatTab (E_z37z I_z37z).C := ct_of (P := Tryz.prog) (T := T) (.cons ok_z60z (.cons ok_kit_Has (.cons ok_z18z .nil))) (by kernel_rfl)
noncomputable def cb_z37z_L3 : Code := sub [1, 1, 0, 1, 0, 0] code_63
theorem s_z37z_L3 (g : C_z37z) (n : Nat) : StepOk (E_z37z g) g.N cb_z37z_L3 sh_z37z_L3 (LP_z37z_L3 g) n := by intro ps; unfold LP_z37z_L3; split; exact .inr fun R K => (by kernel_rfl); exact .inl fun R K => rfl
theorem lf_z37z_L3 [Fuel] : LoopFine (E_z37z I_z37z) NN cb_z37z_L3 := fine_loop sh_z37z_L3 (LP_z37z_L3 I_z37z) (by kernel_rfl) ct_z37z (cuts0 (fun _ => rfl) (by kernel_rfl)) (fun ps R K => by unfold LP_z37z_L3; split <;> (try unfold z37z_L3) <;> rfl) (s_z37z_L3 I_z37z)
theorem sm_z37z (g : C_z37z) : Same (SS_z37z (@z37z_ g)) (abody (E_z37z g) Tryz.f63 code_63 5 [] [.arr 101] g.N) := by intro args; unfold SS_z37z; split; exact .inr fun R k => (by kernel_rfl); exact .inl fun R k => rfl
theorem ok_z37z [Fuel] : Ok 63 (SS_z37z (@z37z _)) := okF_of std (.cons ok_z60z (.cons ok_kit_Has (.cons ok_z18z .nil))) ⟨rfl, rfl, by kernel_rfl, rfl, rfl, rfl⟩ (sm_z37z I_z37z) (cutsL (fun _ => rfl) (.cons lf_z37z_L3 .nil) (by kernel_rfl)) Tryz.func63 (by kernel_rfl) (by kernel_rfl)
abbrev T_band_May_1 : Type 1 := G_Row → G_Row → {R : Type} → (Bool → G_Row → Option R) → Option R
def band_May_1_ (g : Nat) (a1 a2 : G_Row) {R : Type} (k0 : Bool → G_Row → Option R) : Option R :=
 (bif (decide (a1.f_From ≤ a2.f_From)) then k0 (decide (a2.f_To ≤ a1.f_To)) a2 else k0 false a2)
noncomputable def band_May_1 [Fuel] : T_band_May_1 := @band_May_1_ NN
def SS_band_May_1 (g : T_band_May_1) : Spec A := fun args => match args with | [.agg [.d (.int .i64 a1), .d (.int .i64 a2)], .box [.d (.int .i64 a3), .d (.int .i64 a4)]] => fun k => g ⟨a1, a2⟩ ⟨a3, a4⟩ (fun z0 z1 => k (.d (.bool z0)) [.undef, .box [.d (.int .i64 z1.f_From), .d (.int .i64 z1.f_To)]]) | _ => fun _ => none
noncomputable def code_64 : Code := (Tryz.f64.body).getD .skip
noncomputable def E_band_May_1 (g : Nat) : Env A := mkE [] [(2, [1])] [] [] [] [] [] [] [] [1]
theorem sm_band_May_1 (g : Nat) : Same (SS_band_May_1 (@band_May_1_ g)) (abody (E_band_May_1 g) Tryz.f64 code_64 2 [0] [.asis] g) := by intro args; unfold SS_band_May_1; split; exact .inr fun R k => (by kernel_rfl); exact .inl fun R k => rfl
theorem ok_band_May_1 [Fuel] : Ok 64 (SS_band_May_1 (@band_May_1 _)) := okF_of std .nil ⟨rfl, rfl, by kernel_rfl, rfl, rfl, rfl⟩ (sm_band_May_1 NN) (cuts0 (fun _ => rfl) (by kernel_rfl)) Tryz.func64 (by kernel_rfl) (by kernel_rfl)
end Go.Am
