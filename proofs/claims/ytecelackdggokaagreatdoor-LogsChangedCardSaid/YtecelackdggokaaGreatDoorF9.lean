/- The functions of the program as Lean functions, each shown to be what the code computes, part 9. No condition: lemmas for the claim. -/
import Derived.Test.YtecelackdggokaaGreatDoorF0
import Derived.Test.YtecelackdggokaaGreatDoorFSh
import Derived.Test.YtecelackdggokaaGreatDoorF1
import Derived.Test.YtecelackdggokaaGreatDoorF2
import Derived.Test.YtecelackdggokaaGreatDoorF3
import Derived.Test.YtecelackdggokaaGreatDoorF4
import Derived.Test.YtecelackdggokaaGreatDoorF5
import Derived.Test.YtecelackdggokaaGreatDoorF6
import Derived.Test.YtecelackdggokaaGreatDoorF7
import Derived.Test.YtecelackdggokaaGreatDoorF8
set_option linter.unusedVariables false
set_option maxRecDepth 100000
namespace Go.Am
open Go Go.Proofs
abbrev T_slices_Equal__Contact : Type 1 := List G_Contact → List G_Contact → {R : Type} → (Bool → Option R) → Option R
def slices_Equal__Contact_L4 (g : Nat) : Nat → List G_Contact → List G_Contact → Int → Int → {R : Type} → (Bool → Option R) → Option R → Option R
  | 0, _, _, _, _, _, _, _ => none
  | n + 1, v3, v4, v5, v6, _, e0, e1 => (bif (decide (v6 < v5)) then (get_ v3 v6 fun x9 => (get_ v4 v6 fun x10 => (bif (!(eq_G_Contact x9 x10)) then e0 false else slices_Equal__Contact_L4 g n v3 v4 v5 (w64 (v6 + 1)) e0 e1))) else e1)
def slices_Equal__Contact_ (g : Nat) (a1 a2 : List G_Contact) {R : Type} (k0 : Bool → Option R) : Option R :=
  (bif ((a1.length : Int) != (a2.length : Int)) then k0 false else (slices_Equal__Contact_L4 g g a1 a2 (a1.length : Int) 0 (fun e11 => k0 e11) (k0 true)))
noncomputable def slices_Equal__Contact [Fuel] : T_slices_Equal__Contact := @slices_Equal__Contact_ NN
def p_slices_Equal__Contact (args : List (IV A)) : Bool := match args with | [.d (.sl 34 _), .d (.sl 34 _)] => true | _ => false
def SS_slices_Equal__Contact (g : T_slices_Equal__Contact) : Spec A := fun args => match args with | [.d (.sl 34 a1), .d (.sl 34 a2)] => fun k => g a1 a2 (fun z0 => k (.d (.bool z0)) [.undef, .undef]) | _ => fun _ => none
def sh_slices_Equal__Contact_L4 : SSt := mkSh 26 0 [(0, .sl 34), (1, .sl 34), (12, .int .i64), (13, .int .i64)] []
def LP_slices_Equal__Contact_L4 (g : Nat) (n : Nat) : LPT A := fun ps => match ps with | [.d (.sl 34 p1), .d (.sl 34 p2), .d (.int .i64 p3), .d (.int .i64 p4)] => fun K => slices_Equal__Contact_L4 g n p1 p2 p3 p4 (fun z0 => K .ret (mkSt 26 0 [(4, .d (.bool z0))] [])) (K (.exit 0) (mkSt 26 0 [] [])) | _ => fun _ => none
noncomputable def code_22 : Code := (Tryz.f22.body).getD .skip
noncomputable def E_slices_Equal__Contact (g : Nat) : Env A := mkE [] [] [(4, ⟨[0, 1, 12, 13], [], [], []⟩)] [(4, ⟨[4], [], [], []⟩)] [(4, pieceOf sh_slices_Equal__Contact_L4 (LP_slices_Equal__Contact_L4 g g))] [] [] [] [] []
theorem ct_slices_Equal__Contact [Fuel] : NatTab (E_slices_Equal__Contact NN).C := ct_of (P := Tryz.prog) (T := T) .nil (by kernel_rfl)
noncomputable def cb_slices_Equal__Contact_L4 : Code := sub [1, 1, 0, 1, 0, 0] code_22
theorem s_slices_Equal__Contact_L4 (g : Nat) (n : Nat) : StepOk (E_slices_Equal__Contact g) g cb_slices_Equal__Contact_L4 sh_slices_Equal__Contact_L4 (LP_slices_Equal__Contact_L4 g) n := by intro ps; unfold LP_slices_Equal__Contact_L4; split; exact .inr fun R K => (by kernel_rfl); exact .inl fun R K => rfl
theorem lf_slices_Equal__Contact_L4 [Fuel] : LoopFine (E_slices_Equal__Contact NN) NN cb_slices_Equal__Contact_L4 := fine_loop sh_slices_Equal__Contact_L4 (LP_slices_Equal__Contact_L4 NN) (by kernel_rfl) ct_slices_Equal__Contact (cuts0 (fun _ => rfl) (by kernel_rfl)) (fun ps R K => by unfold LP_slices_Equal__Contact_L4; split <;> (try unfold slices_Equal__Contact_L4) <;> rfl) (s_slices_Equal__Contact_L4 NN)
theorem sm_slices_Equal__Contact (g : Nat) : Same (SS_slices_Equal__Contact (@slices_Equal__Contact_ g)) (abody (E_slices_Equal__Contact g) Tryz.f22 code_22 0 [] [.asis] g) := by intro args; unfold SS_slices_Equal__Contact; split; exact .inr fun R k => (by kernel_rfl); exact .inl fun R k => rfl
theorem ok_slices_Equal__Contact [Fuel] : Ok 22 (SS_slices_Equal__Contact (@slices_Equal__Contact _)) := okF_of std .nil ⟨rfl, rfl, by kernel_rfl, rfl, rfl⟩ (sm_slices_Equal__Contact NN) (cutsL (fun _ => rfl) (.cons lf_slices_Equal__Contact_L4 .nil) (by kernel_rfl)) Tryz.func22 (by kernel_rfl) (by kernel_rfl)
abbrev T_slices_Equal__int : Type 1 := List Int → List Int → {R : Type} → (Bool → Option R) → Option R
def slices_Equal__int_L4 (g : Nat) : Nat → List Int → List Int → Int → Int → {R : Type} → (Bool → Option R) → Option R → Option R
  | 0, _, _, _, _, _, _, _ => none
  | n + 1, v3, v4, v5, v6, _, e0, e1 => (bif (decide (v6 < v5)) then (get_ v3 v6 fun x9 => (get_ v4 v6 fun x10 => (bif (x9 != x10) then e0 false else slices_Equal__int_L4 g n v3 v4 v5 (w64 (v6 + 1)) e0 e1))) else e1)
def slices_Equal__int_ (g : Nat) (a1 a2 : List Int) {R : Type} (k0 : Bool → Option R) : Option R :=
  (bif ((a1.length : Int) != (a2.length : Int)) then k0 false else (slices_Equal__int_L4 g g a1 a2 (a1.length : Int) 0 (fun e11 => k0 e11) (k0 true)))
noncomputable def slices_Equal__int [Fuel] : T_slices_Equal__int := @slices_Equal__int_ NN
def p_slices_Equal__int (args : List (IV A)) : Bool := match args with | [.d (.sl 3 _), .d (.sl 3 _)] => true | _ => false
def SS_slices_Equal__int (g : T_slices_Equal__int) : Spec A := fun args => match args with | [.d (.sl 3 a1), .d (.sl 3 a2)] => fun k => g a1 a2 (fun z0 => k (.d (.bool z0)) [.undef, .undef]) | _ => fun _ => none
def sh_slices_Equal__int_L4 : SSt := mkSh 26 0 [(0, .sl 3), (1, .sl 3), (12, .int .i64), (13, .int .i64)] []
def LP_slices_Equal__int_L4 (g : Nat) (n : Nat) : LPT A := fun ps => match ps with | [.d (.sl 3 p1), .d (.sl 3 p2), .d (.int .i64 p3), .d (.int .i64 p4)] => fun K => slices_Equal__int_L4 g n p1 p2 p3 p4 (fun z0 => K .ret (mkSt 26 0 [(4, .d (.bool z0))] [])) (K (.exit 0) (mkSt 26 0 [] [])) | _ => fun _ => none
noncomputable def code_23 : Code := (Tryz.f23.body).getD .skip
noncomputable def E_slices_Equal__int (g : Nat) : Env A := mkE [] [] [(4, ⟨[0, 1, 12, 13], [], [], []⟩)] [(4, ⟨[4], [], [], []⟩)] [(4, pieceOf sh_slices_Equal__int_L4 (LP_slices_Equal__int_L4 g g))] [] [] [] [] []
theorem ct_slices_Equal__int [Fuel] : NatTab (E_slices_Equal__int NN).C := ct_of (P := Tryz.prog) (T := T) .nil (by kernel_rfl)
noncomputable def cb_slices_Equal__int_L4 : Code := sub [1, 1, 0, 1, 0, 0] code_23
theorem s_slices_Equal__int_L4 (g : Nat) (n : Nat) : StepOk (E_slices_Equal__int g) g cb_slices_Equal__int_L4 sh_slices_Equal__int_L4 (LP_slices_Equal__int_L4 g) n := by intro ps; unfold LP_slices_Equal__int_L4; split; exact .inr fun R K => (by kernel_rfl); exact .inl fun R K => rfl
theorem lf_slices_Equal__int_L4 [Fuel] : LoopFine (E_slices_Equal__int NN) NN cb_slices_Equal__int_L4 := fine_loop sh_slices_Equal__int_L4 (LP_slices_Equal__int_L4 NN) (by kernel_rfl) ct_slices_Equal__int (cuts0 (fun _ => rfl) (by kernel_rfl)) (fun ps R K => by unfold LP_slices_Equal__int_L4; split <;> (try unfold slices_Equal__int_L4) <;> rfl) (s_slices_Equal__int_L4 NN)
theorem sm_slices_Equal__int (g : Nat) : Same (SS_slices_Equal__int (@slices_Equal__int_ g)) (abody (E_slices_Equal__int g) Tryz.f23 code_23 0 [] [.asis] g) := by intro args; unfold SS_slices_Equal__int; split; exact .inr fun R k => (by kernel_rfl); exact .inl fun R k => rfl
theorem ok_slices_Equal__int [Fuel] : Ok 23 (SS_slices_Equal__int (@slices_Equal__int _)) := okF_of std .nil ⟨rfl, rfl, by kernel_rfl, rfl, rfl⟩ (sm_slices_Equal__int NN) (cutsL (fun _ => rfl) (.cons lf_slices_Equal__int_L4 .nil) (by kernel_rfl)) Tryz.func23 (by kernel_rfl) (by kernel_rfl)
abbrev T_call_BaseOf : Type 1 := List UInt8 → {R : Type} → (List UInt8 → Option R) → Option R
structure C_call_BaseOf where
  N : Nat
  call_Parts : T_call_Parts
def call_BaseOf_ (g : C_call_BaseOf) (a1 : List UInt8) {R : Type} (k0 : List UInt8 → Option R) : Option R :=
  (g.call_Parts a1 (fun r2 r3 => k0 r2.f_Base))
noncomputable def I_call_BaseOf [Fuel] : C_call_BaseOf := ⟨NN, @call_Parts _⟩
noncomputable def call_BaseOf [Fuel] : T_call_BaseOf := @call_BaseOf_ I_call_BaseOf
def SS_call_BaseOf (g : T_call_BaseOf) : Spec A := fun args => match args with | [.d (.str a1)] => fun k => g a1 (fun z0 => k (.d (.str z0)) [.undef]) | _ => fun _ => none
noncomputable def code_177 : Code := (Tryz.f177.body).getD .skip
noncomputable def E_call_BaseOf (g : C_call_BaseOf) : Env A := mkE [(184, SS_call_Parts g.call_Parts)] [(3, [0])] [] [] [] [] [] [] [] []
theorem sm_call_BaseOf (g : C_call_BaseOf) : Same (SS_call_BaseOf (@call_BaseOf_ g)) (abody (E_call_BaseOf g) Tryz.f177 code_177 1 [] [.asis] g.N) := by intro args; unfold SS_call_BaseOf; split; exact .inr fun R k => (by kernel_rfl); exact .inl fun R k => rfl
theorem ok_call_BaseOf [Fuel] : Ok 177 (SS_call_BaseOf (@call_BaseOf _)) := okF_of std (.cons ok_call_Parts .nil) ⟨rfl, rfl, by kernel_rfl, rfl, rfl⟩ (sm_call_BaseOf I_call_BaseOf) (cuts0 (fun _ => rfl) (by kernel_rfl)) Tryz.func177 (by kernel_rfl) (by kernel_rfl)
abbrev T_log_dupes : Type 1 := List G_Contact → {R : Type} → (List Int → Option R) → Option R
structure C_log_dupes where
  N : Nat
  call_BaseOf : T_call_BaseOf
def log_dupes_L4 (g : C_log_dupes) : Nat → List G_Contact → Int → Int → List (G_log_worked × Bool) → List Int → {R : Type} → (List Int → Option R) → Option R
  | 0, _, _, _, _, _, _, _ => none
  | n + 1, v2, v3, v4, v5, v6, _, e0 => (bif (decide (v4 < v3)) then (get_ v2 v4 fun x9 => (g.call_BaseOf x9.f_Call (fun r10 => (bif ((mget_log_worked_bool (⟨r10, x9.f_Band, x9.f_Mode⟩ : G_log_worked) v5).getD false) then (bif (decide ((v6.length + [v4].length) * 8 ≤ roomBytes')) then log_dupes_L4 g n v2 v3 (w64 (v4 + 1)) (mset_log_worked_bool (⟨r10, x9.f_Band, x9.f_Mode⟩ : G_log_worked) true v5) (v6 ++ [v4]) e0 else none) else log_dupes_L4 g n v2 v3 (w64 (v4 + 1)) (mset_log_worked_bool (⟨r10, x9.f_Band, x9.f_Mode⟩ : G_log_worked) true v5) v6 e0)))) else e0 v6)
def log_dupes_ (g : C_log_dupes) (a1 : List G_Contact) {R : Type} (k0 : List Int → Option R) : Option R :=
  (log_dupes_L4 g g.N a1 (a1.length : Int) 0 [] [] (fun e11 => k0 e11))
noncomputable def I_log_dupes [Fuel] : C_log_dupes := ⟨NN, @call_BaseOf _⟩
noncomputable def log_dupes [Fuel] : T_log_dupes := @log_dupes_ I_log_dupes
def SS_log_dupes (g : T_log_dupes) : Spec A := fun args => match args with | [.d (.sl 34 a1)] => fun k => g a1 (fun z0 => k (.arr 3 z0) [.undef]) | _ => fun _ => none
def sh_log_dupes_L4 : SSt := mkSh 35 6 [(3, .mp 0), (4, .own 3 1), (9, .sl 34), (10, .int .i64), (11, .int .i64)] [(0, .mp 245 4), (1, .row 3)]
def LP_log_dupes_L4 (g : C_log_dupes) (n : Nat) : LPT A := fun ps => match ps with | [.d (.sl 34 p1), .d (.int .i64 p2), .d (.int .i64 p3), .mp 245 4 p4, .d (.sl 3 p5)] => fun K => log_dupes_L4 g n p1 p2 p3 p4 p5 (fun z0 => K (.exit 0) (mkSt 35 6 [(4, .own 3 1)] [(1, some (.row 3 z0))])) | _ => fun _ => none
noncomputable def code_173 : Code := (Tryz.f173.body).getD .skip
noncomputable def E_log_dupes (g : C_log_dupes) : Env A := mkE [(177, SS_call_BaseOf g.call_BaseOf)] [(6, [2]), (7, [3]), (8, [0]), (29, [4]), (30, [5])] [(4, ⟨[3, 4, 9, 10, 11], [(4, 3, 1)], [0], []⟩)] [(4, ⟨[4], [], [1], []⟩)] [(4, pieceOf sh_log_dupes_L4 (LP_log_dupes_L4 g g.N))] [] [] [] [] []
theorem ct_log_dupes [Fuel] : NatTab (E_log_dupes I_log_dupes).C := ct_of (P := Tryz.prog) (T := T) (.cons ok_call_BaseOf .nil) (by kernel_rfl)
noncomputable def cb_log_dupes_L4 : Code := sub [1, 1, 1, 0, 1, 0, 0] code_173
theorem s_log_dupes_L4 (g : C_log_dupes) (n : Nat) : StepOk (E_log_dupes g) g.N cb_log_dupes_L4 sh_log_dupes_L4 (LP_log_dupes_L4 g) n := by intro ps; unfold LP_log_dupes_L4; split; exact .inr fun R K => (by kernel_rfl); exact .inl fun R K => rfl
theorem lf_log_dupes_L4 [Fuel] : LoopFine (E_log_dupes I_log_dupes) NN cb_log_dupes_L4 := fine_loop sh_log_dupes_L4 (LP_log_dupes_L4 I_log_dupes) (by kernel_rfl) ct_log_dupes (cuts0 (fun _ => rfl) (by kernel_rfl)) (fun ps R K => by unfold LP_log_dupes_L4; split <;> (try unfold log_dupes_L4) <;> rfl) (s_log_dupes_L4 I_log_dupes)
theorem sm_log_dupes (g : C_log_dupes) : Same (SS_log_dupes (@log_dupes_ g)) (abody (E_log_dupes g) Tryz.f173 code_173 6 [] [.arr 3] g.N) := by intro args; unfold SS_log_dupes; split; exact .inr fun R k => (by kernel_rfl); exact .inl fun R k => rfl
theorem ok_log_dupes [Fuel] : Ok 173 (SS_log_dupes (@log_dupes _)) := okF_of std (.cons ok_call_BaseOf .nil) ⟨rfl, rfl, by kernel_rfl, rfl, rfl⟩ (sm_log_dupes I_log_dupes) (cutsL (fun _ => rfl) (.cons lf_log_dupes_L4 .nil) (by kernel_rfl)) Tryz.func173 (by kernel_rfl) (by kernel_rfl)
abbrev T_log_Dupes : Type 1 := List G_Contact → {R : Type} → (List Int → Int → Option R) → Option R
structure C_log_Dupes where
  N : Nat
  log_CheckLog : T_log_CheckLog
  log_dupes : T_log_dupes
def log_Dupes_ (g : C_log_Dupes) (a1 : List G_Contact) {R : Type} (k0 : List Int → Int → Option R) : Option R :=
  (g.log_CheckLog a1 (fun r2 => (bif (r2 != 0) then k0 [] r2 else (g.log_dupes a1 (fun r3 => k0 r3 0)))))
noncomputable def I_log_Dupes [Fuel] : C_log_Dupes := ⟨NN, @log_CheckLog _, @log_dupes _⟩
noncomputable def log_Dupes [Fuel] : T_log_Dupes := @log_Dupes_ I_log_Dupes
def SS_log_Dupes (g : T_log_Dupes) : Spec A := fun args => match args with | [.d (.sl 34 a1)] => fun k => g a1 (fun z0 z1 => k (.tup [.arr 3 z0, .d (.int .i64 z1)]) [.undef]) | _ => fun _ => none
noncomputable def code_99 : Code := (Tryz.f99.body).getD .skip
noncomputable def E_log_Dupes (g : C_log_Dupes) : Env A := mkE [(81, SS_log_CheckLog g.log_CheckLog), (173, SS_log_dupes g.log_dupes)] [(11, [0])] [] [] [] [] [] [] [] []
theorem sm_log_Dupes (g : C_log_Dupes) : Same (SS_log_Dupes (@log_Dupes_ g)) (abody (E_log_Dupes g) Tryz.f99 code_99 1 [] [.arr 3, .asis] g.N) := by intro args; unfold SS_log_Dupes; split; exact .inr fun R k => (by kernel_rfl); exact .inl fun R k => rfl
theorem ok_log_Dupes [Fuel] : Ok 99 (SS_log_Dupes (@log_Dupes _)) := okF_of std (.cons ok_log_CheckLog (.cons ok_log_dupes .nil)) ⟨rfl, rfl, by kernel_rfl, rfl, rfl⟩ (sm_log_Dupes I_log_Dupes) (cuts0 (fun _ => rfl) (by kernel_rfl)) Tryz.func99 (by kernel_rfl) (by kernel_rfl)
abbrev T_law_logged : Type 1 := {R : Type} → (Bool → Option R) → Option R
structure C_law_logged where
  N : Nat
  slices_Equal__int : T_slices_Equal__int
  log_Dupes : T_log_Dupes
def law_logged_ (g : C_law_logged)  {R : Type} (k0 : Bool → Option R) : Option R :=
  (g.log_Dupes [(⟨0, 1, [98], [107, 49, 97, 98], 0, 0, [], []⟩ : G_Contact), (⟨5, 1, [98], [107, 49, 97, 98], 0, 0, [], []⟩ : G_Contact)] (fun r1 r2 => (bif (r2 == 0) then (g.slices_Equal__int r1 [1] (fun r3 => k0 r3)) else k0 false)))
noncomputable def I_law_logged [Fuel] : C_law_logged := ⟨NN, @slices_Equal__int _, @log_Dupes _⟩
noncomputable def law_logged [Fuel] : T_law_logged := @law_logged_ I_law_logged
def SS_law_logged (g : T_law_logged) : Spec A := fun args => match args with | [] => fun k => g (fun z0 => k (.d (.bool z0)) []) | _ => fun _ => none
noncomputable def code_24 : Code := (Tryz.f24.body).getD .skip
noncomputable def E_law_logged (g : C_law_logged) : Env A := mkE [(23, SS_slices_Equal__int g.slices_Equal__int), (99, SS_log_Dupes g.log_Dupes)] [(1, [0]), (2, [1]), (11, [2]), (12, [3]), (19, [4])] [] [] [] [] [] [] [] []
theorem sm_law_logged (g : C_law_logged) : Same (SS_law_logged (@law_logged_ g)) (abody (E_law_logged g) Tryz.f24 code_24 5 [] [.asis] g.N) := by intro args; unfold SS_law_logged; split; exact .inr fun R k => (by kernel_rfl); exact .inl fun R k => rfl
theorem ok_law_logged [Fuel] : Ok 24 (SS_law_logged (@law_logged _)) := okF_of std (.cons ok_slices_Equal__int (.cons ok_log_Dupes .nil)) ⟨rfl, rfl, by kernel_rfl, rfl, rfl⟩ (sm_law_logged I_law_logged) (cuts0 (fun _ => rfl) (by kernel_rfl)) Tryz.func24 (by kernel_rfl) (by kernel_rfl)
abbrev T_slices_Equal__Contact_n1 : Type 1 := List G_Contact → {R : Type} → (Bool → Option R) → Option R
def slices_Equal__Contact_n1_L4 (g : Nat) : Nat → List G_Contact → Int → Int → {R : Type} → Option R → Option R
  | 0, _, _, _, _, _ => none
  | n + 1, v2, v3, v4, _, e0 => (bif (decide (v4 < v3)) then (get_ v2 v4 fun x6 => none) else e0)
def slices_Equal__Contact_n1_ (g : Nat) (a1 : List G_Contact) {R : Type} (k0 : Bool → Option R) : Option R :=
  (bif ((a1.length : Int) != 0) then k0 false else (slices_Equal__Contact_n1_L4 g g a1 (a1.length : Int) 0 (k0 true)))
noncomputable def slices_Equal__Contact_n1 [Fuel] : T_slices_Equal__Contact_n1 := @slices_Equal__Contact_n1_ NN
def SS_slices_Equal__Contact_n1 (g : T_slices_Equal__Contact_n1) : Spec A := fun args => match args with | [.d (.sl 34 a1), .d .nsl] => fun k => g a1 (fun z0 => k (.d (.bool z0)) [.undef, .undef]) | _ => fun _ => none
def sh_slices_Equal__Contact_n1_L4 : SSt := mkSh 26 0 [(0, .sl 34), (1, .nsl), (12, .int .i64), (13, .int .i64)] []
def LP_slices_Equal__Contact_n1_L4 (g : Nat) (n : Nat) : LPT A := fun ps => match ps with | [.d (.sl 34 p1), .d (.int .i64 p2), .d (.int .i64 p3)] => fun K => slices_Equal__Contact_n1_L4 g n p1 p2 p3 (K (.exit 0) (mkSt 26 0 [] [])) | _ => fun _ => none
noncomputable def E_slices_Equal__Contact_n1 (g : Nat) : Env A := mkE [] [] [(4, ⟨[0, 1, 12, 13], [], [], []⟩)] [(4, ⟨[], [], [], []⟩)] [(4, pieceOf sh_slices_Equal__Contact_n1_L4 (LP_slices_Equal__Contact_n1_L4 g g))] [] [] [] [] []
theorem ct_slices_Equal__Contact_n1 [Fuel] : NatTab (E_slices_Equal__Contact_n1 NN).C := ct_of (P := Tryz.prog) (T := T) .nil (by kernel_rfl)
noncomputable def cb_slices_Equal__Contact_n1_L4 : Code := sub [1, 1, 0, 1, 0, 0] code_22
theorem s_slices_Equal__Contact_n1_L4 (g : Nat) (n : Nat) : StepOk (E_slices_Equal__Contact_n1 g) g cb_slices_Equal__Contact_n1_L4 sh_slices_Equal__Contact_n1_L4 (LP_slices_Equal__Contact_n1_L4 g) n := by intro ps; unfold LP_slices_Equal__Contact_n1_L4; split; exact .inr fun R K => (by kernel_rfl); exact .inl fun R K => rfl
theorem lf_slices_Equal__Contact_n1_L4 [Fuel] : LoopFine (E_slices_Equal__Contact_n1 NN) NN cb_slices_Equal__Contact_n1_L4 := fine_loop sh_slices_Equal__Contact_n1_L4 (LP_slices_Equal__Contact_n1_L4 NN) (by kernel_rfl) ct_slices_Equal__Contact_n1 (cuts0 (fun _ => rfl) (by kernel_rfl)) (fun ps R K => by unfold LP_slices_Equal__Contact_n1_L4; split <;> (try unfold slices_Equal__Contact_n1_L4) <;> rfl) (s_slices_Equal__Contact_n1_L4 NN)
theorem sm_slices_Equal__Contact_n1 (g : Nat) : Same (SS_slices_Equal__Contact_n1 (@slices_Equal__Contact_n1_ g)) (abody (E_slices_Equal__Contact_n1 g) Tryz.f22 code_22 0 [] [.asis] g) := by intro args; unfold SS_slices_Equal__Contact_n1; split; exact .inr fun R k => (by kernel_rfl); exact .inl fun R k => rfl
theorem ok_slices_Equal__Contact_n1 [Fuel] : Ok 22 (SS_slices_Equal__Contact_n1 (@slices_Equal__Contact_n1 _)) := okF_of std .nil ⟨rfl, rfl, by kernel_rfl, rfl, rfl⟩ (sm_slices_Equal__Contact_n1 NN) (cutsL (fun _ => rfl) (.cons lf_slices_Equal__Contact_n1_L4 .nil) (by kernel_rfl)) Tryz.func22 (by kernel_rfl) (by kernel_rfl)
abbrev T_slices_Equal__int_n1 : Type 1 := List Int → {R : Type} → (Bool → Option R) → Option R
def slices_Equal__int_n1_L4 (g : Nat) : Nat → List Int → Int → Int → {R : Type} → Option R → Option R
  | 0, _, _, _, _, _ => none
  | n + 1, v2, v3, v4, _, e0 => (bif (decide (v4 < v3)) then (get_ v2 v4 fun x6 => none) else e0)
def slices_Equal__int_n1_ (g : Nat) (a1 : List Int) {R : Type} (k0 : Bool → Option R) : Option R :=
  (bif ((a1.length : Int) != 0) then k0 false else (slices_Equal__int_n1_L4 g g a1 (a1.length : Int) 0 (k0 true)))
noncomputable def slices_Equal__int_n1 [Fuel] : T_slices_Equal__int_n1 := @slices_Equal__int_n1_ NN
def SS_slices_Equal__int_n1 (g : T_slices_Equal__int_n1) : Spec A := fun args => match args with | [.d (.sl 3 a1), .d .nsl] => fun k => g a1 (fun z0 => k (.d (.bool z0)) [.undef, .undef]) | _ => fun _ => none
def sh_slices_Equal__int_n1_L4 : SSt := mkSh 26 0 [(0, .sl 3), (1, .nsl), (12, .int .i64), (13, .int .i64)] []
def LP_slices_Equal__int_n1_L4 (g : Nat) (n : Nat) : LPT A := fun ps => match ps with | [.d (.sl 3 p1), .d (.int .i64 p2), .d (.int .i64 p3)] => fun K => slices_Equal__int_n1_L4 g n p1 p2 p3 (K (.exit 0) (mkSt 26 0 [] [])) | _ => fun _ => none
noncomputable def E_slices_Equal__int_n1 (g : Nat) : Env A := mkE [] [] [(4, ⟨[0, 1, 12, 13], [], [], []⟩)] [(4, ⟨[], [], [], []⟩)] [(4, pieceOf sh_slices_Equal__int_n1_L4 (LP_slices_Equal__int_n1_L4 g g))] [] [] [] [] []
theorem ct_slices_Equal__int_n1 [Fuel] : NatTab (E_slices_Equal__int_n1 NN).C := ct_of (P := Tryz.prog) (T := T) .nil (by kernel_rfl)
noncomputable def cb_slices_Equal__int_n1_L4 : Code := sub [1, 1, 0, 1, 0, 0] code_23
theorem s_slices_Equal__int_n1_L4 (g : Nat) (n : Nat) : StepOk (E_slices_Equal__int_n1 g) g cb_slices_Equal__int_n1_L4 sh_slices_Equal__int_n1_L4 (LP_slices_Equal__int_n1_L4 g) n := by intro ps; unfold LP_slices_Equal__int_n1_L4; split; exact .inr fun R K => (by kernel_rfl); exact .inl fun R K => rfl
theorem lf_slices_Equal__int_n1_L4 [Fuel] : LoopFine (E_slices_Equal__int_n1 NN) NN cb_slices_Equal__int_n1_L4 := fine_loop sh_slices_Equal__int_n1_L4 (LP_slices_Equal__int_n1_L4 NN) (by kernel_rfl) ct_slices_Equal__int_n1 (cuts0 (fun _ => rfl) (by kernel_rfl)) (fun ps R K => by unfold LP_slices_Equal__int_n1_L4; split <;> (try unfold slices_Equal__int_n1_L4) <;> rfl) (s_slices_Equal__int_n1_L4 NN)
theorem sm_slices_Equal__int_n1 (g : Nat) : Same (SS_slices_Equal__int_n1 (@slices_Equal__int_n1_ g)) (abody (E_slices_Equal__int_n1 g) Tryz.f23 code_23 0 [] [.asis] g) := by intro args; unfold SS_slices_Equal__int_n1; split; exact .inr fun R k => (by kernel_rfl); exact .inl fun R k => rfl
theorem ok_slices_Equal__int_n1 [Fuel] : Ok 23 (SS_slices_Equal__int_n1 (@slices_Equal__int_n1 _)) := okF_of std .nil ⟨rfl, rfl, by kernel_rfl, rfl, rfl⟩ (sm_slices_Equal__int_n1 NN) (cutsL (fun _ => rfl) (.cons lf_slices_Equal__int_n1_L4 .nil) (by kernel_rfl)) Tryz.func23 (by kernel_rfl) (by kernel_rfl)
abbrev T_slices_Equal__Change_n1 : Type 1 := List G_Change → {R : Type} → (Bool → Option R) → Option R
def slices_Equal__Change_n1_L4 (g : Nat) : Nat → List G_Change → Int → Int → {R : Type} → Option R → Option R
  | 0, _, _, _, _, _ => none
  | n + 1, v2, v3, v4, _, e0 => (bif (decide (v4 < v3)) then (get_ v2 v4 fun x6 => none) else e0)
def slices_Equal__Change_n1_ (g : Nat) (a1 : List G_Change) {R : Type} (k0 : Bool → Option R) : Option R :=
  (bif ((a1.length : Int) != 0) then k0 false else (slices_Equal__Change_n1_L4 g g a1 (a1.length : Int) 0 (k0 true)))
noncomputable def slices_Equal__Change_n1 [Fuel] : T_slices_Equal__Change_n1 := @slices_Equal__Change_n1_ NN
def SS_slices_Equal__Change_n1 (g : T_slices_Equal__Change_n1) : Spec A := fun args => match args with | [.d (.sl 36 a1), .d .nsl] => fun k => g a1 (fun z0 => k (.d (.bool z0)) [.undef, .undef]) | _ => fun _ => none
def sh_slices_Equal__Change_n1_L4 : SSt := mkSh 26 0 [(0, .sl 36), (1, .nsl), (12, .int .i64), (13, .int .i64)] []
def LP_slices_Equal__Change_n1_L4 (g : Nat) (n : Nat) : LPT A := fun ps => match ps with | [.d (.sl 36 p1), .d (.int .i64 p2), .d (.int .i64 p3)] => fun K => slices_Equal__Change_n1_L4 g n p1 p2 p3 (K (.exit 0) (mkSt 26 0 [] [])) | _ => fun _ => none
noncomputable def E_slices_Equal__Change_n1 (g : Nat) : Env A := mkE [] [] [(4, ⟨[0, 1, 12, 13], [], [], []⟩)] [(4, ⟨[], [], [], []⟩)] [(4, pieceOf sh_slices_Equal__Change_n1_L4 (LP_slices_Equal__Change_n1_L4 g g))] [] [] [] [] []
theorem ct_slices_Equal__Change_n1 [Fuel] : NatTab (E_slices_Equal__Change_n1 NN).C := ct_of (P := Tryz.prog) (T := T) .nil (by kernel_rfl)
noncomputable def cb_slices_Equal__Change_n1_L4 : Code := sub [1, 1, 0, 1, 0, 0] code_21
theorem s_slices_Equal__Change_n1_L4 (g : Nat) (n : Nat) : StepOk (E_slices_Equal__Change_n1 g) g cb_slices_Equal__Change_n1_L4 sh_slices_Equal__Change_n1_L4 (LP_slices_Equal__Change_n1_L4 g) n := by intro ps; unfold LP_slices_Equal__Change_n1_L4; split; exact .inr fun R K => (by kernel_rfl); exact .inl fun R K => rfl
theorem lf_slices_Equal__Change_n1_L4 [Fuel] : LoopFine (E_slices_Equal__Change_n1 NN) NN cb_slices_Equal__Change_n1_L4 := fine_loop sh_slices_Equal__Change_n1_L4 (LP_slices_Equal__Change_n1_L4 NN) (by kernel_rfl) ct_slices_Equal__Change_n1 (cuts0 (fun _ => rfl) (by kernel_rfl)) (fun ps R K => by unfold LP_slices_Equal__Change_n1_L4; split <;> (try unfold slices_Equal__Change_n1_L4) <;> rfl) (s_slices_Equal__Change_n1_L4 NN)
theorem sm_slices_Equal__Change_n1 (g : Nat) : Same (SS_slices_Equal__Change_n1 (@slices_Equal__Change_n1_ g)) (abody (E_slices_Equal__Change_n1 g) Tryz.f21 code_21 0 [] [.asis] g) := by intro args; unfold SS_slices_Equal__Change_n1; split; exact .inr fun R k => (by kernel_rfl); exact .inl fun R k => rfl
theorem ok_slices_Equal__Change_n1 [Fuel] : Ok 21 (SS_slices_Equal__Change_n1 (@slices_Equal__Change_n1 _)) := okF_of std .nil ⟨rfl, rfl, by kernel_rfl, rfl, rfl⟩ (sm_slices_Equal__Change_n1 NN) (cutsL (fun _ => rfl) (.cons lf_slices_Equal__Change_n1_L4 .nil) (by kernel_rfl)) Tryz.func21 (by kernel_rfl) (by kernel_rfl)
abbrev T_law_LogsChanged : Type 1 := List Int → {R : Type} → (Bool → Option R) → Option R
structure C_law_LogsChanged where
  N : Nat
  Stream_Contacts : T_Stream_Contacts
  Stream_Range : T_Stream_Range
  Stream_Changes : T_Stream_Changes
  Stream_Flip : T_Stream_Flip
  slices_Clone__Change : T_slices_Clone__Change
  Stream_Next : T_Stream_Next
  log_MergeChanges : T_log_MergeChanges
  log_Changed : T_log_Changed
  law_errs : T_law_errs
  Q_ChangesFault : T_Q_ChangesFault
  Q_LogFault : T_Q_LogFault
  Q_ChangesOf : T_Q_ChangesOf
  Q_ChangedLog : T_Q_ChangedLog
  log_CheckChanges : T_log_CheckChanges
  slices_Equal__Change : T_slices_Equal__Change
  slices_Equal__Change_n1 : T_slices_Equal__Change_n1
  slices_Equal__Contact : T_slices_Equal__Contact
  slices_Equal__Contact_n1 : T_slices_Equal__Contact_n1
  slices_Equal__int : T_slices_Equal__int
  slices_Equal__int_n1 : T_slices_Equal__int_n1
  law_logged : T_law_logged
def law_LogsChanged_J6 (g : C_law_LogsChanged) (v62 : Bool) (v63 : G_Stream) (v64 : List G_Contact) (v65 v66 : List G_Change) {R : Type} (e0 : List G_Contact → List G_Change → List G_Change → List G_Change → Option R) (e1 : List G_Contact → List G_Change → List G_Change → Option R) : Option R :=
  (bif v62 then (g.Stream_Next v63 (v65.length : Int) (fun r74 r75 => (bif (decide (0 ≤ r74) && decide (r74 ≤ (v65.length : Int))) then (g.slices_Clone__Change (v65.drop (r74 : Int).toNat) (fun r76 => (g.Stream_Flip r75 4 (fun r77 r78 => (bif r77 then (inr r76 0 (at_ r76 0 fun x79 => (inr r76 0 (at_ r76 0 fun x80 => e0 v64 v65 v66 (set_ r76 0 (⟨x80.f_No, x80.f_Kind, x80.f_Was, (⟨x80.f_Is.f_At, x80.f_Is.f_Mode, x80.f_Is.f_Band, x80.f_Is.f_Call, x80.f_Is.f_Sent, (w64 (x79.f_Is.f_Heard + 1)), x80.f_Is.f_Gave, x80.f_Is.f_Got⟩ : G_Contact)⟩ : G_Change)))))) else e0 v64 v65 v66 r76))))) else none))) else e1 v64 v65 v66)
def law_LogsChanged_J19 (g : C_law_LogsChanged) (v155 v156 v157 v158 : Int) (v159 v160 : List G_Change) (v161 : List G_Contact) (v162 : List Int) (v163 : List G_Change) (v164 : List G_Contact) (v165 : List Int) {R : Type} (e0 : Bool → Option R) : Option R :=
  (g.log_CheckChanges v159 (fun r172 => (g.Q_ChangesFault v159 (fun r173 => (bif (r172 == r173) then (bif (v155 == v157) then (g.slices_Equal__Change v160 v163 (fun r174 => (bif r174 then (bif (v156 == v158) then (g.slices_Equal__Contact v161 v164 (fun r175 => (bif r175 then (g.slices_Equal__int v162 v165 (fun r176 => (bif r176 then (g.law_logged (fun r177 => e0 r177)) else e0 false))) else e0 false))) else e0 false) else e0 false))) else e0 false) else e0 false)))))
def law_LogsChanged_J15 (g : C_law_LogsChanged) (v111 v112 v113 v114 : Int) (v115 : List G_Contact) (v116 v117 : List G_Change) (v118 : List G_Contact) (v119 : List Int) (v120 : List G_Change) {R : Type} (e0 : Bool → Option R) : Option R :=
  (bif (v114 == 0) then (g.Q_ChangedLog v115 v116 (fun r178 r179 r180 => (law_LogsChanged_J19 g v111 v112 v113 r180 v116 v117 v118 v119 v120 r178 r179 (fun e181 => e0 e181)))) else (law_LogsChanged_J19 g v111 v112 v113 v114 v116 v117 v118 v119 v120 [] [] (fun e182 => e0 e182)))
def law_LogsChanged_J19_1 (g : C_law_LogsChanged) (v216 v217 v218 v219 : Int) (v220 v221 : List G_Change) (v222 : List G_Contact) (v223 : List Int) (v224 : List G_Change) (v225 : List G_Contact) (v226 : List Int) {R : Type} (e0 : Bool → Option R) : Option R :=
  (g.log_CheckChanges v220 (fun r227 => (g.Q_ChangesFault v220 (fun r228 => (bif (r227 == r228) then (bif (v216 == v218) then (g.slices_Equal__Change v221 v224 (fun r229 => (bif r229 then (bif (v217 == v219) then (g.slices_Equal__Contact v222 v225 (fun r230 => (bif r230 then (g.slices_Equal__int v223 v226 (fun r231 => (bif r231 then (g.law_logged (fun r232 => e0 r232)) else e0 false))) else e0 false))) else e0 false) else e0 false))) else e0 false) else e0 false)))))
def law_LogsChanged_J15_1 (g : C_law_LogsChanged) (v203 v204 v205 v206 : Int) (v207 : List G_Contact) (v208 v209 : List G_Change) (v210 : List G_Contact) (v211 : List Int) (v212 : List G_Change) {R : Type} (e0 : Bool → Option R) : Option R :=
  (bif (v206 == 0) then (g.Q_ChangedLog v207 v208 (fun r213 r214 r215 => (law_LogsChanged_J19_1 g v203 v204 v205 r215 v208 v209 v210 v211 v212 r213 r214 (fun e233 => e0 e233)))) else (law_LogsChanged_J19_1 g v203 v204 v205 v206 v208 v209 v210 v211 v212 [] [] (fun e234 => e0 e234)))
def law_LogsChanged_ (g : C_law_LogsChanged) (a1 : List Int) {R : Type} (k0 : Bool → Option R) : Option R :=
  (g.Stream_Range (⟨a1, 0⟩ : G_Stream) 0 6 (fun r6 r7 => (g.Stream_Contacts r7 r6 (fun r8 r9 => (g.Stream_Changes r9 r8 (fun r12 r13 => (g.Stream_Changes r13 r8 (fun r16 r17 => (bif (decide ((r12.length : Int) > 0)) then (g.Stream_Flip r17 2 (fun r81 r82 => (law_LogsChanged_J6 g r81 r82 r8 r12 r16 (fun e83 e84 e85 e86 => (g.log_MergeChanges e84 e86 (fun r89 r90 => (g.log_Changed e83 e84 (fun r94 r95 r96 => (g.Q_ChangesFault e84 (fun r103 => (g.Q_ChangesFault e86 (fun r104 => (g.law_errs [r103, r104] (fun r105 => (g.Q_LogFault e83 (fun r106 => (g.Q_ChangesFault e84 (fun r107 => (g.law_errs [r106, r107] (fun r108 => (bif (r105 == 0) then (g.Q_ChangesOf e84 e86 (fun r183 r184 => (law_LogsChanged_J15 g r90 r96 r184 r108 e83 e84 r89 r94 r95 r183 (fun e185 => k0 e185)))) else (law_LogsChanged_J15 g r90 r96 r105 r108 e83 e84 r89 r94 r95 [] (fun e186 => k0 e186)))))))))))))))))))) (fun e187 e188 e189 => (g.log_MergeChanges e188 e189 (fun r190 r191 => (g.log_Changed e187 e188 (fun r192 r193 r194 => (g.Q_ChangesFault e188 (fun r195 => (g.Q_ChangesFault e189 (fun r196 => (g.law_errs [r195, r196] (fun r197 => (g.Q_LogFault e187 (fun r198 => (g.Q_ChangesFault e188 (fun r199 => (g.law_errs [r198, r199] (fun r200 => (bif (r197 == 0) then (g.Q_ChangesOf e188 e189 (fun r201 r202 => (law_LogsChanged_J15_1 g r191 r194 r202 r200 e187 e188 r190 r192 r193 r201 (fun e235 => k0 e235)))) else (law_LogsChanged_J15_1 g r191 r194 r197 r200 e187 e188 r190 r192 r193 [] (fun e236 => k0 e236))))))))))))))))))))))) else (law_LogsChanged_J6 g false r17 r8 r12 r16 (fun e237 e238 e239 e240 => (g.log_MergeChanges e238 e240 (fun r241 r242 => (g.log_Changed e237 e238 (fun r243 r244 r245 => (g.Q_ChangesFault e238 (fun r246 => (g.Q_ChangesFault e240 (fun r247 => (g.law_errs [r246, r247] (fun r248 => (g.Q_LogFault e237 (fun r249 => (g.Q_ChangesFault e238 (fun r250 => (g.law_errs [r249, r250] (fun r251 => (bif (r248 == 0) then (g.Q_ChangesOf e238 e240 (fun r252 r253 => (law_LogsChanged_J15 g r242 r245 r253 r251 e237 e238 r241 r243 r244 r252 (fun e254 => k0 e254)))) else (law_LogsChanged_J15 g r242 r245 r248 r251 e237 e238 r241 r243 r244 [] (fun e255 => k0 e255)))))))))))))))))))) (fun e256 e257 e258 => (g.log_MergeChanges e257 e258 (fun r259 r260 => (g.log_Changed e256 e257 (fun r261 r262 r263 => (g.Q_ChangesFault e257 (fun r264 => (g.Q_ChangesFault e258 (fun r265 => (g.law_errs [r264, r265] (fun r266 => (g.Q_LogFault e256 (fun r267 => (g.Q_ChangesFault e257 (fun r268 => (g.law_errs [r267, r268] (fun r269 => (bif (r266 == 0) then (g.Q_ChangesOf e257 e258 (fun r270 r271 => (law_LogsChanged_J15_1 g r260 r263 r271 r269 e256 e257 r259 r261 r262 r270 (fun e272 => k0 e272)))) else (law_LogsChanged_J15_1 g r260 r263 r266 r269 e256 e257 r259 r261 r262 [] (fun e273 => k0 e273))))))))))))))))))))))))))))))
noncomputable def I_law_LogsChanged [Fuel] : C_law_LogsChanged := ⟨NN, @Stream_Contacts _, @Stream_Range _, @Stream_Changes _, @Stream_Flip _, @slices_Clone__Change _, @Stream_Next _, @log_MergeChanges _, @log_Changed _, @law_errs _, @Q_ChangesFault _, @Q_LogFault _, @Q_ChangesOf _, @Q_ChangedLog _, @log_CheckChanges _, @slices_Equal__Change _, @slices_Equal__Change_n1 _, @slices_Equal__Contact _, @slices_Equal__Contact_n1 _, @slices_Equal__int _, @slices_Equal__int_n1 _, @law_logged _⟩
noncomputable def law_LogsChanged [Fuel] : T_law_LogsChanged := @law_LogsChanged_ I_law_LogsChanged
def SS_law_LogsChanged (g : T_law_LogsChanged) : Spec A := fun args => match args with | [.d (.sl 3 a1)] => fun k => g a1 (fun z0 => k (.d (.bool z0)) [.undef]) | _ => fun _ => none
def sh_law_LogsChanged_J6 : SSt := mkSh 130 17 [(3, .ptr 0 0), (4, .own 34 1), (5, .own 36 2), (6, .own 36 3), (36, .bool)] [(0, .box [.sl 3, .int .i64]), (1, .frz 34), (2, .row 36), (3, .row 36)]
def LP_law_LogsChanged_J6 (g : C_law_LogsChanged) : LPT A := fun ps => match ps with | [.d (.bool p1), .d (.sl 3 p2), .d (.int .i64 p3), .d (.sl 34 p4), .d (.sl 36 p5), .d (.sl 36 p6)] => fun K => law_LogsChanged_J6 g p1 ⟨p2, p3⟩ p4 p5 p6 (fun z0 z1 z2 z3 => K .normal (mkSt 130 17 [(4, .own 34 1), (5, .own 36 2), (6, .own 36 4)] [(1, some (.frz 34 z0)), (2, some (.frz 36 z1)), (3, some (.row 36 z2)), (4, some (.row 36 z3))])) (fun z0 z1 z2 => K .normal (mkSt 130 17 [(4, .own 34 1), (5, .own 36 2), (6, .own 36 3)] [(1, some (.frz 34 z0)), (2, some (.row 36 z1)), (3, some (.row 36 z2))])) | _ => fun _ => none
def sh_law_LogsChanged_J19 : SSt := mkSh 130 17 [(5, .own 36 2), (7, .own 36 6), (8, .int .i64), (9, .own 34 7), (10, .own 3 8), (11, .int .i64), (12, .int .i64), (13, .int .i64), (14, .own 36 12), (15, .own 34 15), (16, .own 3 16)] [(2, .frz 36), (6, .row 36), (7, .row 34), (8, .row 3), (12, .row 36), (15, .row 34), (16, .row 3)]
def LP_law_LogsChanged_J19 (g : C_law_LogsChanged) : LPT A := fun ps => match ps with | [.d (.int .i64 p1), .d (.int .i64 p2), .d (.int .i64 p3), .d (.int .i64 p4), .d (.sl 36 p5), .d (.sl 36 p6), .d (.sl 34 p7), .d (.sl 3 p8), .d (.sl 36 p9), .d (.sl 34 p10), .d (.sl 3 p11)] => fun K => law_LogsChanged_J19 g p1 p2 p3 p4 p5 p6 p7 p8 p9 p10 p11 (fun z0 => K .ret (mkSt 130 17 [(2, .d (.bool z0))] [])) | _ => fun _ => none
def sh_law_LogsChanged_J15 : SSt := mkSh 130 17 [(4, .own 34 1), (5, .own 36 2), (7, .own 36 6), (8, .int .i64), (9, .own 34 7), (10, .own 3 8), (11, .int .i64), (12, .int .i64), (13, .int .i64), (14, .own 36 12)] [(1, .frz 34), (2, .frz 36), (6, .row 36), (7, .row 34), (8, .row 3), (12, .row 36)]
def LP_law_LogsChanged_J15 (g : C_law_LogsChanged) : LPT A := fun ps => match ps with | [.d (.int .i64 p1), .d (.int .i64 p2), .d (.int .i64 p3), .d (.int .i64 p4), .d (.sl 34 p5), .d (.sl 36 p6), .d (.sl 36 p7), .d (.sl 34 p8), .d (.sl 3 p9), .d (.sl 36 p10)] => fun K => law_LogsChanged_J15 g p1 p2 p3 p4 p5 p6 p7 p8 p9 p10 (fun z0 => K .ret (mkSt 130 17 [(2, .d (.bool z0))] [])) | _ => fun _ => none
def sh_law_LogsChanged_J19_1 : SSt := mkSh 130 17 [(5, .own 36 2), (7, .own 36 6), (8, .int .i64), (9, .own 34 7), (10, .own 3 8), (11, .int .i64), (12, .int .i64), (13, .int .i64), (14, .own 36 12), (15, .own 34 15), (16, .own 3 16)] [(2, .row 36), (6, .row 36), (7, .row 34), (8, .row 3), (12, .row 36), (15, .row 34), (16, .row 3)]
def LP_law_LogsChanged_J19_1 (g : C_law_LogsChanged) : LPT A := fun ps => match ps with | [.d (.int .i64 p1), .d (.int .i64 p2), .d (.int .i64 p3), .d (.int .i64 p4), .d (.sl 36 p5), .d (.sl 36 p6), .d (.sl 34 p7), .d (.sl 3 p8), .d (.sl 36 p9), .d (.sl 34 p10), .d (.sl 3 p11)] => fun K => law_LogsChanged_J19_1 g p1 p2 p3 p4 p5 p6 p7 p8 p9 p10 p11 (fun z0 => K .ret (mkSt 130 17 [(2, .d (.bool z0))] [])) | _ => fun _ => none
def sh_law_LogsChanged_J15_1 : SSt := mkSh 130 17 [(4, .own 34 1), (5, .own 36 2), (7, .own 36 6), (8, .int .i64), (9, .own 34 7), (10, .own 3 8), (11, .int .i64), (12, .int .i64), (13, .int .i64), (14, .own 36 12)] [(1, .frz 34), (2, .row 36), (6, .row 36), (7, .row 34), (8, .row 3), (12, .row 36)]
def LP_law_LogsChanged_J15_1 (g : C_law_LogsChanged) : LPT A := fun ps => match ps with | [.d (.int .i64 p1), .d (.int .i64 p2), .d (.int .i64 p3), .d (.int .i64 p4), .d (.sl 34 p5), .d (.sl 36 p6), .d (.sl 36 p7), .d (.sl 34 p8), .d (.sl 3 p9), .d (.sl 36 p10)] => fun K => law_LogsChanged_J15_1 g p1 p2 p3 p4 p5 p6 p7 p8 p9 p10 (fun z0 => K .ret (mkSt 130 17 [(2, .d (.bool z0))] [])) | _ => fun _ => none
noncomputable def code_3 : Code := (Tryz.f3.body).getD .skip
def CS_law_LogsChanged (g : C_law_LogsChanged) : List (Nat × Piece A) := [(6, pieceOf sh_law_LogsChanged_J6 (LP_law_LogsChanged_J6 g)), (19, pieces [(sh_law_LogsChanged_J19, LP_law_LogsChanged_J19 g), (sh_law_LogsChanged_J19_1, LP_law_LogsChanged_J19_1 g)]), (15, pieces [(sh_law_LogsChanged_J15, LP_law_LogsChanged_J15 g), (sh_law_LogsChanged_J15_1, LP_law_LogsChanged_J15_1 g)])]
noncomputable def E_law_LogsChanged (g : C_law_LogsChanged) : Env A := mkE [(7, SS_Stream_Contacts g.Stream_Contacts), (8, SS_Stream_Range g.Stream_Range), (9, SS_Stream_Changes g.Stream_Changes), (10, SS_Stream_Flip g.Stream_Flip), (11, SS_slices_Clone__Change g.slices_Clone__Change), (12, SS_Stream_Next g.Stream_Next), (13, SS_log_MergeChanges g.log_MergeChanges), (14, SS_log_Changed g.log_Changed), (15, SS_law_errs g.law_errs), (16, SS_Q_ChangesFault g.Q_ChangesFault), (17, SS_Q_LogFault g.Q_LogFault), (18, SS_Q_ChangesOf g.Q_ChangesOf), (19, SS_Q_ChangedLog g.Q_ChangedLog), (20, SS_log_CheckChanges g.log_CheckChanges), (21, orS p_slices_Equal__Change (SS_slices_Equal__Change g.slices_Equal__Change) (SS_slices_Equal__Change_n1 g.slices_Equal__Change_n1)), (22, orS p_slices_Equal__Contact (SS_slices_Equal__Contact g.slices_Equal__Contact) (SS_slices_Equal__Contact_n1 g.slices_Equal__Contact_n1)), (23, orS p_slices_Equal__int (SS_slices_Equal__int g.slices_Equal__int) (SS_slices_Equal__int_n1 g.slices_Equal__int_n1)), (24, SS_law_logged g.law_logged)] [(19, [0]), (23, [1]), (26, [2]), (29, [3]), (43, [4]), (58, [6]), (64, [7, 8]), (72, [9]), (78, [10]), (85, [11]), (93, [13, 14])] [] [] [] [(6, ⟨[3, 4, 5, 6, 36], [], [0, 1, 2, 3], []⟩), (19, ⟨[5, 7, 8, 9, 10, 11, 12, 13, 14, 15, 16], [(15, 34, 15), (16, 3, 16)], [2, 6, 7, 8, 12], []⟩), (15, ⟨[4, 5, 7, 8, 9, 10, 11, 12, 13, 14], [(14, 36, 12)], [1, 2, 6, 7, 8], []⟩)] [(6, ⟨[4, 5, 6], [], [1, 2, 3, 4], []⟩), (19, ⟨[2], [], [], []⟩), (15, ⟨[2], [], [], []⟩)] (CS_law_LogsChanged g) [] []
theorem ct_law_LogsChanged [Fuel] : NatTab (E_law_LogsChanged I_law_LogsChanged).C := ct_of (P := Tryz.prog) (T := T) (.cons ok_Stream_Contacts (.cons ok_Stream_Range (.cons ok_Stream_Changes (.cons ok_Stream_Flip (.cons ok_slices_Clone__Change (.cons ok_Stream_Next (.cons ok_log_MergeChanges (.cons ok_log_Changed (.cons ok_law_errs (.cons ok_Q_ChangesFault (.cons ok_Q_LogFault (.cons ok_Q_ChangesOf (.cons ok_Q_ChangedLog (.cons ok_log_CheckChanges (.cons (ok_or p_slices_Equal__Change ok_slices_Equal__Change ok_slices_Equal__Change_n1) (.cons (ok_or p_slices_Equal__Contact ok_slices_Equal__Contact ok_slices_Equal__Contact_n1) (.cons (ok_or p_slices_Equal__int ok_slices_Equal__int ok_slices_Equal__int_n1) (.cons ok_law_logged .nil)))))))))))))))))) (by kernel_rfl)
noncomputable def cb_law_LogsChanged_J6 : Code := sub [1, 1, 1, 1, 1, 0, 1] code_3
theorem s_law_LogsChanged_J6 (g : C_law_LogsChanged) : JumpOk (E_law_LogsChanged g) g.N cb_law_LogsChanged_J6 sh_law_LogsChanged_J6 (LP_law_LogsChanged_J6 g) := by intro ps; unfold LP_law_LogsChanged_J6; split; exact .inr fun R K => (by kernel_rfl); exact .inl fun R K => rfl
theorem sf_law_LogsChanged_J6 [Fuel] : SeqFine (E_law_LogsChanged I_law_LogsChanged) NN cb_law_LogsChanged_J6 := fine_jump sh_law_LogsChanged_J6 (LP_law_LogsChanged_J6 I_law_LogsChanged) (by kernel_rfl) ct_law_LogsChanged (cutsJ (cs := CS_law_LogsChanged I_law_LogsChanged) rfl .nil .nil (by kernel_rfl) (by kernel_rfl)) (s_law_LogsChanged_J6 I_law_LogsChanged)
noncomputable def cb_law_LogsChanged_J19 : Code := sub [1, 1, 1, 1, 1, 1, 1, 1, 1, 1, 1, 1, 1, 1] code_3
theorem s_law_LogsChanged_J19 (g : C_law_LogsChanged) : JumpOk (E_law_LogsChanged g) g.N cb_law_LogsChanged_J19 sh_law_LogsChanged_J19 (LP_law_LogsChanged_J19 g) := by intro ps; unfold LP_law_LogsChanged_J19; split; exact .inr fun R K => (by kernel_rfl); exact .inl fun R K => rfl
noncomputable def cb_law_LogsChanged_J15 : Code := sub [1, 1, 1, 1, 1, 1, 1, 1, 1, 1, 1] code_3
theorem s_law_LogsChanged_J15 (g : C_law_LogsChanged) : JumpOk (E_law_LogsChanged g) g.N cb_law_LogsChanged_J15 sh_law_LogsChanged_J15 (LP_law_LogsChanged_J15 g) := by intro ps; unfold LP_law_LogsChanged_J15; split; exact .inr fun R K => (by kernel_rfl); exact .inl fun R K => rfl
theorem s_law_LogsChanged_J19_1 (g : C_law_LogsChanged) : JumpOk (E_law_LogsChanged g) g.N cb_law_LogsChanged_J19 sh_law_LogsChanged_J19_1 (LP_law_LogsChanged_J19_1 g) := by intro ps; unfold LP_law_LogsChanged_J19_1; split; exact .inr fun R K => (by kernel_rfl); exact .inl fun R K => rfl
theorem sf_law_LogsChanged_J19 [Fuel] : SeqFine (E_law_LogsChanged I_law_LogsChanged) NN cb_law_LogsChanged_J19 := fine_jumps (l := [(sh_law_LogsChanged_J19, LP_law_LogsChanged_J19 I_law_LogsChanged), (sh_law_LogsChanged_J19_1, LP_law_LogsChanged_J19_1 I_law_LogsChanged)]) (by kernel_rfl) ct_law_LogsChanged (cutsJ (cs := CS_law_LogsChanged I_law_LogsChanged) rfl .nil .nil (by kernel_rfl) (by kernel_rfl)) ⟨s_law_LogsChanged_J19 I_law_LogsChanged, s_law_LogsChanged_J19_1 I_law_LogsChanged, trivial⟩
theorem s_law_LogsChanged_J15_1 (g : C_law_LogsChanged) : JumpOk (E_law_LogsChanged g) g.N cb_law_LogsChanged_J15 sh_law_LogsChanged_J15_1 (LP_law_LogsChanged_J15_1 g) := by intro ps; unfold LP_law_LogsChanged_J15_1; split; exact .inr fun R K => (by kernel_rfl); exact .inl fun R K => rfl
theorem sf_law_LogsChanged_J15 [Fuel] : SeqFine (E_law_LogsChanged I_law_LogsChanged) NN cb_law_LogsChanged_J15 := fine_jumps (l := [(sh_law_LogsChanged_J15, LP_law_LogsChanged_J15 I_law_LogsChanged), (sh_law_LogsChanged_J15_1, LP_law_LogsChanged_J15_1 I_law_LogsChanged)]) (by kernel_rfl) ct_law_LogsChanged (cutsJ (cs := CS_law_LogsChanged I_law_LogsChanged) rfl .nil (.cons sf_law_LogsChanged_J19 .nil) (by kernel_rfl) (by kernel_rfl)) ⟨s_law_LogsChanged_J15 I_law_LogsChanged, s_law_LogsChanged_J15_1 I_law_LogsChanged, trivial⟩
theorem sm_law_LogsChanged (g : C_law_LogsChanged) : Same (SS_law_LogsChanged (@law_LogsChanged_ g)) (abody (E_law_LogsChanged g) Tryz.f3 code_3 17 [] [.asis] g.N) := by intro args; unfold SS_law_LogsChanged; split; exact .inr fun R k => (by kernel_rfl); exact .inl fun R k => rfl
theorem ok_law_LogsChanged [Fuel] : Ok 3 (SS_law_LogsChanged (@law_LogsChanged _)) := okF_of std (.cons ok_Stream_Contacts (.cons ok_Stream_Range (.cons ok_Stream_Changes (.cons ok_Stream_Flip (.cons ok_slices_Clone__Change (.cons ok_Stream_Next (.cons ok_log_MergeChanges (.cons ok_log_Changed (.cons ok_law_errs (.cons ok_Q_ChangesFault (.cons ok_Q_LogFault (.cons ok_Q_ChangesOf (.cons ok_Q_ChangedLog (.cons ok_log_CheckChanges (.cons (ok_or p_slices_Equal__Change ok_slices_Equal__Change ok_slices_Equal__Change_n1) (.cons (ok_or p_slices_Equal__Contact ok_slices_Equal__Contact ok_slices_Equal__Contact_n1) (.cons (ok_or p_slices_Equal__int ok_slices_Equal__int ok_slices_Equal__int_n1) (.cons ok_law_logged .nil)))))))))))))))))) ⟨rfl, rfl, by kernel_rfl, rfl, rfl⟩ (sm_law_LogsChanged I_law_LogsChanged) (cutsJ (cs := CS_law_LogsChanged I_law_LogsChanged) rfl .nil (.cons sf_law_LogsChanged_J6 (.cons sf_law_LogsChanged_J19 (.cons sf_law_LogsChanged_J15 .nil))) (by kernel_rfl) (by kernel_rfl)) Tryz.func3 (by kernel_rfl) (by kernel_rfl)
end Go.Am
