/- The functions of the program as Lean functions, each shown to be what the code computes, part 5. No condition: lemmas for the claim. -/
import Derived.Test.YtecelackdggokaaGreatDoorF0
import Derived.Test.YtecelackdggokaaGreatDoorFSh
import Derived.Test.YtecelackdggokaaGreatDoorF3
import Derived.Test.YtecelackdggokaaGreatDoorF4
set_option linter.unusedVariables false
set_option maxRecDepth 100000
namespace Go.Am
open Go Go.Proofs
abbrev T_Q_rowsOf_1_1 : Type 1 := G_Row → Int → {R : Type} → (Bool → Int → Option R) → Option R
def Q_rowsOf_1_1_ (g : Nat) (a1 : G_Row) (a2 : Int) {R : Type} (k0 : Bool → Int → Option R) : Option R :=
  (bif (decide (a1.f_From ≤ a2)) then k0 (decide (a2 < a1.f_To)) a2 else k0 false a2)
noncomputable def Q_rowsOf_1_1 [Fuel] : T_Q_rowsOf_1_1 := @Q_rowsOf_1_1_ NN
def SS_Q_rowsOf_1_1 (g : T_Q_rowsOf_1_1) : Spec A := fun args => match args with | [.agg [.d (.int .i64 a1), .d (.int .i64 a2)], .box [.d (.int .i64 a3)]] => fun k => g ⟨a1, a2⟩ a3 (fun z0 z1 => k (.d (.bool z0)) [.undef, .box [.d (.int .i64 z1)]]) | _ => fun _ => none
noncomputable def code_207 : Code := (Tryz.f207.body).getD .skip
noncomputable def E_Q_rowsOf_1_1 (g : Nat) : Env A := mkE [] [(2, [1])] [] [] [] [] [] [] [] [1]
theorem sm_Q_rowsOf_1_1 (g : Nat) : Same (SS_Q_rowsOf_1_1 (@Q_rowsOf_1_1_ g)) (abody (E_Q_rowsOf_1_1 g) Tryz.f207 code_207 2 [0] [.asis] g) := by intro args; unfold SS_Q_rowsOf_1_1; split; exact .inr fun R k => (by kernel_rfl); exact .inl fun R k => rfl
theorem ok_Q_rowsOf_1_1 [Fuel] : Ok 207 (SS_Q_rowsOf_1_1 (@Q_rowsOf_1_1 _)) := okF_of std .nil ⟨rfl, rfl, by kernel_rfl, rfl, rfl⟩ (sm_Q_rowsOf_1_1 NN) (cuts0 (fun _ => rfl) (by kernel_rfl)) Tryz.func207 (by kernel_rfl) (by kernel_rfl)
abbrev T_slices_IndexFunc__Row_Q_rowsOf_1_1 : Type 1 := List G_Row → Int → {R : Type} → (Int → Int → Option R) → Option R
structure C_slices_IndexFunc__Row_Q_rowsOf_1_1 where
  N : Nat
  Q_rowsOf_1_1 : T_Q_rowsOf_1_1
def slices_IndexFunc__Row_Q_rowsOf_1_1_L2 (g : C_slices_IndexFunc__Row_Q_rowsOf_1_1) : Nat → List G_Row → Int → Int → Int → {R : Type} → (Int → Int → Option R) → (Int → Option R) → Option R
  | 0, _, _, _, _, _, _, _ => none
  | n + 1, v3, v4, v5, v6, _, e0, e1 => (bif (decide (v5 < v4)) then (get_ v3 v5 fun x10 => (g.Q_rowsOf_1_1 x10 v6 (fun r11 r12 => (bif r11 then e0 v5 r12 else slices_IndexFunc__Row_Q_rowsOf_1_1_L2 g n v3 v4 (w64 (v5 + 1)) r12 e0 e1)))) else e1 v6)
def slices_IndexFunc__Row_Q_rowsOf_1_1_ (g : C_slices_IndexFunc__Row_Q_rowsOf_1_1) (a1 : List G_Row) (a2 : Int) {R : Type} (k0 : Int → Int → Option R) : Option R :=
  (slices_IndexFunc__Row_Q_rowsOf_1_1_L2 g g.N a1 (a1.length : Int) 0 a2 (fun e13 e14 => k0 e13 e14) (fun e15 => k0 (-1) e15))
noncomputable def I_slices_IndexFunc__Row_Q_rowsOf_1_1 [Fuel] : C_slices_IndexFunc__Row_Q_rowsOf_1_1 := ⟨NN, @Q_rowsOf_1_1 _⟩
noncomputable def slices_IndexFunc__Row_Q_rowsOf_1_1 [Fuel] : T_slices_IndexFunc__Row_Q_rowsOf_1_1 := @slices_IndexFunc__Row_Q_rowsOf_1_1_ I_slices_IndexFunc__Row_Q_rowsOf_1_1
def SS_slices_IndexFunc__Row_Q_rowsOf_1_1 (g : T_slices_IndexFunc__Row_Q_rowsOf_1_1) : Spec A := fun args => match args with | [.d (.sl 98 a1), .fn 207 [.box [.d (.int .i64 a2)]]] => fun k => g a1 a2 (fun z0 z1 => k (.d (.int .i64 z0)) [.undef, .fn 207 [.box [.d (.int .i64 z1)]]]) | _ => fun _ => none
def sh_slices_IndexFunc__Row_Q_rowsOf_1_1_L2 : SSt := mkSh 19 1 [(0, .sl 98), (1, .fn 207 [.ptr 0 0]), (7, .int .i64), (8, .int .i64)] [(0, .box [.int .i64])]
def LP_slices_IndexFunc__Row_Q_rowsOf_1_1_L2 (g : C_slices_IndexFunc__Row_Q_rowsOf_1_1) (n : Nat) : LPT A := fun ps => match ps with | [.d (.sl 98 p1), .d (.int .i64 p2), .d (.int .i64 p3), .d (.int .i64 p4)] => fun K => slices_IndexFunc__Row_Q_rowsOf_1_1_L2 g n p1 p2 p3 p4 (fun z0 z1 => K .ret (mkSt 19 1 [(1, .fn 207 [.ptr 0 0]), (4, .d (.int .i64 z0))] [(0, some (.box [.d (.int .i64 z1)]))])) (fun z0 => K (.exit 0) (mkSt 19 1 [(1, .fn 207 [.ptr 0 0])] [(0, some (.box [.d (.int .i64 z0)]))])) | _ => fun _ => none
noncomputable def E_slices_IndexFunc__Row_Q_rowsOf_1_1 (g : C_slices_IndexFunc__Row_Q_rowsOf_1_1) : Env A := mkE [(207, SS_Q_rowsOf_1_1 g.Q_rowsOf_1_1)] [] [(2, ⟨[0, 1, 7, 8], [], [0], []⟩)] [(2, ⟨[1, 4], [], [0], []⟩)] [(2, pieceOf sh_slices_IndexFunc__Row_Q_rowsOf_1_1_L2 (LP_slices_IndexFunc__Row_Q_rowsOf_1_1_L2 g g.N))] [] [] [] [] [1]
theorem ct_slices_IndexFunc__Row_Q_rowsOf_1_1 [Fuel] : NatTab (E_slices_IndexFunc__Row_Q_rowsOf_1_1 I_slices_IndexFunc__Row_Q_rowsOf_1_1).C := ct_of (P := Tryz.prog) (T := T) (.cons ok_Q_rowsOf_1_1 .nil) (by kernel_rfl)
noncomputable def cb_slices_IndexFunc__Row_Q_rowsOf_1_1_L2 : Code := sub [1, 0, 1, 0, 0] code_199
theorem s_slices_IndexFunc__Row_Q_rowsOf_1_1_L2 (g : C_slices_IndexFunc__Row_Q_rowsOf_1_1) (n : Nat) : StepOk (E_slices_IndexFunc__Row_Q_rowsOf_1_1 g) g.N cb_slices_IndexFunc__Row_Q_rowsOf_1_1_L2 sh_slices_IndexFunc__Row_Q_rowsOf_1_1_L2 (LP_slices_IndexFunc__Row_Q_rowsOf_1_1_L2 g) n := by intro ps; unfold LP_slices_IndexFunc__Row_Q_rowsOf_1_1_L2; split; exact .inr fun R K => (by kernel_rfl); exact .inl fun R K => rfl
theorem lf_slices_IndexFunc__Row_Q_rowsOf_1_1_L2 [Fuel] : LoopFine (E_slices_IndexFunc__Row_Q_rowsOf_1_1 I_slices_IndexFunc__Row_Q_rowsOf_1_1) NN cb_slices_IndexFunc__Row_Q_rowsOf_1_1_L2 := fine_loop sh_slices_IndexFunc__Row_Q_rowsOf_1_1_L2 (LP_slices_IndexFunc__Row_Q_rowsOf_1_1_L2 I_slices_IndexFunc__Row_Q_rowsOf_1_1) (by kernel_rfl) ct_slices_IndexFunc__Row_Q_rowsOf_1_1 (cuts0 (fun _ => rfl) (by kernel_rfl)) (fun ps R K => by unfold LP_slices_IndexFunc__Row_Q_rowsOf_1_1_L2; split <;> (try unfold slices_IndexFunc__Row_Q_rowsOf_1_1_L2) <;> rfl) (s_slices_IndexFunc__Row_Q_rowsOf_1_1_L2 I_slices_IndexFunc__Row_Q_rowsOf_1_1)
theorem sm_slices_IndexFunc__Row_Q_rowsOf_1_1 (g : C_slices_IndexFunc__Row_Q_rowsOf_1_1) : Same (SS_slices_IndexFunc__Row_Q_rowsOf_1_1 (@slices_IndexFunc__Row_Q_rowsOf_1_1_ g)) (abody (E_slices_IndexFunc__Row_Q_rowsOf_1_1 g) Tryz.f199 code_199 1 [0] [.asis] g.N) := by intro args; unfold SS_slices_IndexFunc__Row_Q_rowsOf_1_1; split; exact .inr fun R k => (by kernel_rfl); exact .inl fun R k => rfl
theorem ok_slices_IndexFunc__Row_Q_rowsOf_1_1 [Fuel] : Ok 199 (SS_slices_IndexFunc__Row_Q_rowsOf_1_1 (@slices_IndexFunc__Row_Q_rowsOf_1_1 _)) := okF_of std (.cons ok_Q_rowsOf_1_1 .nil) ⟨rfl, rfl, by kernel_rfl, rfl, rfl⟩ (sm_slices_IndexFunc__Row_Q_rowsOf_1_1 I_slices_IndexFunc__Row_Q_rowsOf_1_1) (cutsL (fun _ => rfl) (.cons lf_slices_IndexFunc__Row_Q_rowsOf_1_1_L2 .nil) (by kernel_rfl)) Tryz.func199 (by kernel_rfl) (by kernel_rfl)
abbrev T_slices_ContainsFunc__Row_Q_rowsOf_1_1 : Type 1 := List G_Row → Int → {R : Type} → (Bool → Int → Option R) → Option R
structure C_slices_ContainsFunc__Row_Q_rowsOf_1_1 where
  N : Nat
  slices_IndexFunc__Row_Q_rowsOf_1_1 : T_slices_IndexFunc__Row_Q_rowsOf_1_1
def slices_ContainsFunc__Row_Q_rowsOf_1_1_ (g : C_slices_ContainsFunc__Row_Q_rowsOf_1_1) (a1 : List G_Row) (a2 : Int) {R : Type} (k0 : Bool → Int → Option R) : Option R :=
  (g.slices_IndexFunc__Row_Q_rowsOf_1_1 a1 a2 (fun r3 r4 => k0 (decide (r3 ≥ 0)) r4))
noncomputable def I_slices_ContainsFunc__Row_Q_rowsOf_1_1 [Fuel] : C_slices_ContainsFunc__Row_Q_rowsOf_1_1 := ⟨NN, @slices_IndexFunc__Row_Q_rowsOf_1_1 _⟩
noncomputable def slices_ContainsFunc__Row_Q_rowsOf_1_1 [Fuel] : T_slices_ContainsFunc__Row_Q_rowsOf_1_1 := @slices_ContainsFunc__Row_Q_rowsOf_1_1_ I_slices_ContainsFunc__Row_Q_rowsOf_1_1
def SS_slices_ContainsFunc__Row_Q_rowsOf_1_1 (g : T_slices_ContainsFunc__Row_Q_rowsOf_1_1) : Spec A := fun args => match args with | [.d (.sl 98 a1), .fn 207 [.box [.d (.int .i64 a2)]]] => fun k => g a1 a2 (fun z0 z1 => k (.d (.bool z0)) [.undef, .fn 207 [.box [.d (.int .i64 z1)]]]) | _ => fun _ => none
noncomputable def E_slices_ContainsFunc__Row_Q_rowsOf_1_1 (g : C_slices_ContainsFunc__Row_Q_rowsOf_1_1) : Env A := mkE [(199, SS_slices_IndexFunc__Row_Q_rowsOf_1_1 g.slices_IndexFunc__Row_Q_rowsOf_1_1)] [] [] [] [] [] [] [] [(199, 0)] [1]
theorem sm_slices_ContainsFunc__Row_Q_rowsOf_1_1 (g : C_slices_ContainsFunc__Row_Q_rowsOf_1_1) : Same (SS_slices_ContainsFunc__Row_Q_rowsOf_1_1 (@slices_ContainsFunc__Row_Q_rowsOf_1_1_ g)) (abody (E_slices_ContainsFunc__Row_Q_rowsOf_1_1 g) Tryz.f152 code_152 1 [0] [.asis] g.N) := by intro args; unfold SS_slices_ContainsFunc__Row_Q_rowsOf_1_1; split; exact .inr fun R k => (by kernel_rfl); exact .inl fun R k => rfl
theorem ok_slices_ContainsFunc__Row_Q_rowsOf_1_1 [Fuel] : Ok 152 (SS_slices_ContainsFunc__Row_Q_rowsOf_1_1 (@slices_ContainsFunc__Row_Q_rowsOf_1_1 _)) := okF_of std (.cons ok_slices_IndexFunc__Row_Q_rowsOf_1_1 .nil) ⟨rfl, rfl, by kernel_rfl, rfl, rfl⟩ (sm_slices_ContainsFunc__Row_Q_rowsOf_1_1 I_slices_ContainsFunc__Row_Q_rowsOf_1_1) (cuts0 (fun _ => rfl) (by kernel_rfl)) Tryz.func152 (by kernel_rfl) (by kernel_rfl)
abbrev T_Q_rowsOf_1 : Type 1 := List G_Row → Int → {R : Type} → (Bool → Option R) → Option R
structure C_Q_rowsOf_1 where
  N : Nat
  slices_ContainsFunc__Row_Q_rowsOf_1_1 : T_slices_ContainsFunc__Row_Q_rowsOf_1_1
def Q_rowsOf_1_ (g : C_Q_rowsOf_1) (a1 : List G_Row) (a2 : Int) {R : Type} (k0 : Bool → Option R) : Option R :=
  (g.slices_ContainsFunc__Row_Q_rowsOf_1_1 a1 a2 (fun r3 r4 => k0 r3))
noncomputable def I_Q_rowsOf_1 [Fuel] : C_Q_rowsOf_1 := ⟨NN, @slices_ContainsFunc__Row_Q_rowsOf_1_1 _⟩
noncomputable def Q_rowsOf_1 [Fuel] : T_Q_rowsOf_1 := @Q_rowsOf_1_ I_Q_rowsOf_1
def p_Q_rowsOf_1 (args : List (IV A)) : Bool := match args with | [.d (.sl 98 _), .d (.int .i64 _)] => true | _ => false
def SS_Q_rowsOf_1 (g : T_Q_rowsOf_1) : Spec A := fun args => match args with | [.d (.sl 98 a1), .d (.int .i64 a2)] => fun k => g a1 a2 (fun z0 => k (.d (.bool z0)) [.undef, .undef]) | _ => fun _ => none
noncomputable def code_206 : Code := (Tryz.f206.body).getD .skip
noncomputable def E_Q_rowsOf_1 (g : C_Q_rowsOf_1) : Env A := mkE [(152, SS_slices_ContainsFunc__Row_Q_rowsOf_1_1 g.slices_ContainsFunc__Row_Q_rowsOf_1_1)] [(3, [0])] [] [] [] [] [] [] [] []
theorem sm_Q_rowsOf_1 (g : C_Q_rowsOf_1) : Same (SS_Q_rowsOf_1 (@Q_rowsOf_1_ g)) (abody (E_Q_rowsOf_1 g) Tryz.f206 code_206 1 [] [.asis] g.N) := by intro args; unfold SS_Q_rowsOf_1; split; exact .inr fun R k => (by kernel_rfl); exact .inl fun R k => rfl
theorem ok_Q_rowsOf_1 [Fuel] : Ok 206 (SS_Q_rowsOf_1 (@Q_rowsOf_1 _)) := okF_of std (.cons ok_slices_ContainsFunc__Row_Q_rowsOf_1_1 .nil) ⟨rfl, rfl, by kernel_rfl, rfl, rfl⟩ (sm_Q_rowsOf_1 I_Q_rowsOf_1) (cuts0 (fun _ => rfl) (by kernel_rfl)) Tryz.func206 (by kernel_rfl) (by kernel_rfl)
abbrev T_slices_IndexFunc__Row_n0_Q_rowsOf_1_1 : Type 1 := Int → {R : Type} → (Int → Int → Option R) → Option R
def slices_IndexFunc__Row_n0_Q_rowsOf_1_1_L2 (g : Nat) : Nat → Int → Int → Int → {R : Type} → (Int → Option R) → Option R
  | 0, _, _, _, _, _ => none
  | n + 1, v2, v3, v4, _, e0 => (bif (decide (v3 < v2)) then none else e0 v4)
def slices_IndexFunc__Row_n0_Q_rowsOf_1_1_ (g : Nat) (a1 : Int) {R : Type} (k0 : Int → Int → Option R) : Option R :=
  (slices_IndexFunc__Row_n0_Q_rowsOf_1_1_L2 g g 0 0 a1 (fun e5 => k0 (-1) e5))
noncomputable def slices_IndexFunc__Row_n0_Q_rowsOf_1_1 [Fuel] : T_slices_IndexFunc__Row_n0_Q_rowsOf_1_1 := @slices_IndexFunc__Row_n0_Q_rowsOf_1_1_ NN
def SS_slices_IndexFunc__Row_n0_Q_rowsOf_1_1 (g : T_slices_IndexFunc__Row_n0_Q_rowsOf_1_1) : Spec A := fun args => match args with | [.d .nsl, .fn 207 [.box [.d (.int .i64 a1)]]] => fun k => g a1 (fun z0 z1 => k (.d (.int .i64 z0)) [.undef, .fn 207 [.box [.d (.int .i64 z1)]]]) | _ => fun _ => none
def sh_slices_IndexFunc__Row_n0_Q_rowsOf_1_1_L2 : SSt := mkSh 19 1 [(0, .nsl), (1, .fn 207 [.ptr 0 0]), (7, .int .i64), (8, .int .i64)] [(0, .box [.int .i64])]
def LP_slices_IndexFunc__Row_n0_Q_rowsOf_1_1_L2 (g : Nat) (n : Nat) : LPT A := fun ps => match ps with | [.d (.int .i64 p1), .d (.int .i64 p2), .d (.int .i64 p3)] => fun K => slices_IndexFunc__Row_n0_Q_rowsOf_1_1_L2 g n p1 p2 p3 (fun z0 => K (.exit 0) (mkSt 19 1 [(1, .fn 207 [.ptr 0 0])] [(0, some (.box [.d (.int .i64 z0)]))])) | _ => fun _ => none
noncomputable def E_slices_IndexFunc__Row_n0_Q_rowsOf_1_1 (g : Nat) : Env A := mkE [] [] [(2, ⟨[0, 1, 7, 8], [], [0], []⟩)] [(2, ⟨[1], [], [0], []⟩)] [(2, pieceOf sh_slices_IndexFunc__Row_n0_Q_rowsOf_1_1_L2 (LP_slices_IndexFunc__Row_n0_Q_rowsOf_1_1_L2 g g))] [] [] [] [] [1]
theorem ct_slices_IndexFunc__Row_n0_Q_rowsOf_1_1 [Fuel] : NatTab (E_slices_IndexFunc__Row_n0_Q_rowsOf_1_1 NN).C := ct_of (P := Tryz.prog) (T := T) .nil (by kernel_rfl)
noncomputable def cb_slices_IndexFunc__Row_n0_Q_rowsOf_1_1_L2 : Code := sub [1, 0, 1, 0, 0] code_199
theorem s_slices_IndexFunc__Row_n0_Q_rowsOf_1_1_L2 (g : Nat) (n : Nat) : StepOk (E_slices_IndexFunc__Row_n0_Q_rowsOf_1_1 g) g cb_slices_IndexFunc__Row_n0_Q_rowsOf_1_1_L2 sh_slices_IndexFunc__Row_n0_Q_rowsOf_1_1_L2 (LP_slices_IndexFunc__Row_n0_Q_rowsOf_1_1_L2 g) n := by intro ps; unfold LP_slices_IndexFunc__Row_n0_Q_rowsOf_1_1_L2; split; exact .inr fun R K => (by kernel_rfl); exact .inl fun R K => rfl
theorem lf_slices_IndexFunc__Row_n0_Q_rowsOf_1_1_L2 [Fuel] : LoopFine (E_slices_IndexFunc__Row_n0_Q_rowsOf_1_1 NN) NN cb_slices_IndexFunc__Row_n0_Q_rowsOf_1_1_L2 := fine_loop sh_slices_IndexFunc__Row_n0_Q_rowsOf_1_1_L2 (LP_slices_IndexFunc__Row_n0_Q_rowsOf_1_1_L2 NN) (by kernel_rfl) ct_slices_IndexFunc__Row_n0_Q_rowsOf_1_1 (cuts0 (fun _ => rfl) (by kernel_rfl)) (fun ps R K => by unfold LP_slices_IndexFunc__Row_n0_Q_rowsOf_1_1_L2; split <;> (try unfold slices_IndexFunc__Row_n0_Q_rowsOf_1_1_L2) <;> rfl) (s_slices_IndexFunc__Row_n0_Q_rowsOf_1_1_L2 NN)
theorem sm_slices_IndexFunc__Row_n0_Q_rowsOf_1_1 (g : Nat) : Same (SS_slices_IndexFunc__Row_n0_Q_rowsOf_1_1 (@slices_IndexFunc__Row_n0_Q_rowsOf_1_1_ g)) (abody (E_slices_IndexFunc__Row_n0_Q_rowsOf_1_1 g) Tryz.f199 code_199 1 [0] [.asis] g) := by intro args; unfold SS_slices_IndexFunc__Row_n0_Q_rowsOf_1_1; split; exact .inr fun R k => (by kernel_rfl); exact .inl fun R k => rfl
theorem ok_slices_IndexFunc__Row_n0_Q_rowsOf_1_1 [Fuel] : Ok 199 (SS_slices_IndexFunc__Row_n0_Q_rowsOf_1_1 (@slices_IndexFunc__Row_n0_Q_rowsOf_1_1 _)) := okF_of std .nil ⟨rfl, rfl, by kernel_rfl, rfl, rfl⟩ (sm_slices_IndexFunc__Row_n0_Q_rowsOf_1_1 NN) (cutsL (fun _ => rfl) (.cons lf_slices_IndexFunc__Row_n0_Q_rowsOf_1_1_L2 .nil) (by kernel_rfl)) Tryz.func199 (by kernel_rfl) (by kernel_rfl)
abbrev T_slices_ContainsFunc__Row_n0_Q_rowsOf_1_1 : Type 1 := Int → {R : Type} → (Bool → Int → Option R) → Option R
structure C_slices_ContainsFunc__Row_n0_Q_rowsOf_1_1 where
  N : Nat
  slices_IndexFunc__Row_n0_Q_rowsOf_1_1 : T_slices_IndexFunc__Row_n0_Q_rowsOf_1_1
def slices_ContainsFunc__Row_n0_Q_rowsOf_1_1_ (g : C_slices_ContainsFunc__Row_n0_Q_rowsOf_1_1) (a1 : Int) {R : Type} (k0 : Bool → Int → Option R) : Option R :=
  (g.slices_IndexFunc__Row_n0_Q_rowsOf_1_1 a1 (fun r2 r3 => k0 (decide (r2 ≥ 0)) r3))
noncomputable def I_slices_ContainsFunc__Row_n0_Q_rowsOf_1_1 [Fuel] : C_slices_ContainsFunc__Row_n0_Q_rowsOf_1_1 := ⟨NN, @slices_IndexFunc__Row_n0_Q_rowsOf_1_1 _⟩
noncomputable def slices_ContainsFunc__Row_n0_Q_rowsOf_1_1 [Fuel] : T_slices_ContainsFunc__Row_n0_Q_rowsOf_1_1 := @slices_ContainsFunc__Row_n0_Q_rowsOf_1_1_ I_slices_ContainsFunc__Row_n0_Q_rowsOf_1_1
def SS_slices_ContainsFunc__Row_n0_Q_rowsOf_1_1 (g : T_slices_ContainsFunc__Row_n0_Q_rowsOf_1_1) : Spec A := fun args => match args with | [.d .nsl, .fn 207 [.box [.d (.int .i64 a1)]]] => fun k => g a1 (fun z0 z1 => k (.d (.bool z0)) [.undef, .fn 207 [.box [.d (.int .i64 z1)]]]) | _ => fun _ => none
noncomputable def E_slices_ContainsFunc__Row_n0_Q_rowsOf_1_1 (g : C_slices_ContainsFunc__Row_n0_Q_rowsOf_1_1) : Env A := mkE [(199, SS_slices_IndexFunc__Row_n0_Q_rowsOf_1_1 g.slices_IndexFunc__Row_n0_Q_rowsOf_1_1)] [] [] [] [] [] [] [] [(199, 0)] [1]
theorem sm_slices_ContainsFunc__Row_n0_Q_rowsOf_1_1 (g : C_slices_ContainsFunc__Row_n0_Q_rowsOf_1_1) : Same (SS_slices_ContainsFunc__Row_n0_Q_rowsOf_1_1 (@slices_ContainsFunc__Row_n0_Q_rowsOf_1_1_ g)) (abody (E_slices_ContainsFunc__Row_n0_Q_rowsOf_1_1 g) Tryz.f152 code_152 1 [0] [.asis] g.N) := by intro args; unfold SS_slices_ContainsFunc__Row_n0_Q_rowsOf_1_1; split; exact .inr fun R k => (by kernel_rfl); exact .inl fun R k => rfl
theorem ok_slices_ContainsFunc__Row_n0_Q_rowsOf_1_1 [Fuel] : Ok 152 (SS_slices_ContainsFunc__Row_n0_Q_rowsOf_1_1 (@slices_ContainsFunc__Row_n0_Q_rowsOf_1_1 _)) := okF_of std (.cons ok_slices_IndexFunc__Row_n0_Q_rowsOf_1_1 .nil) ⟨rfl, rfl, by kernel_rfl, rfl, rfl⟩ (sm_slices_ContainsFunc__Row_n0_Q_rowsOf_1_1 I_slices_ContainsFunc__Row_n0_Q_rowsOf_1_1) (cuts0 (fun _ => rfl) (by kernel_rfl)) Tryz.func152 (by kernel_rfl) (by kernel_rfl)
abbrev T_Q_rowsOf_1_n0 : Type 1 := Int → {R : Type} → (Bool → Option R) → Option R
structure C_Q_rowsOf_1_n0 where
  N : Nat
  slices_ContainsFunc__Row_n0_Q_rowsOf_1_1 : T_slices_ContainsFunc__Row_n0_Q_rowsOf_1_1
def Q_rowsOf_1_n0_ (g : C_Q_rowsOf_1_n0) (a1 : Int) {R : Type} (k0 : Bool → Option R) : Option R :=
  (g.slices_ContainsFunc__Row_n0_Q_rowsOf_1_1 a1 (fun r2 r3 => k0 r2))
noncomputable def I_Q_rowsOf_1_n0 [Fuel] : C_Q_rowsOf_1_n0 := ⟨NN, @slices_ContainsFunc__Row_n0_Q_rowsOf_1_1 _⟩
noncomputable def Q_rowsOf_1_n0 [Fuel] : T_Q_rowsOf_1_n0 := @Q_rowsOf_1_n0_ I_Q_rowsOf_1_n0
def SS_Q_rowsOf_1_n0 (g : T_Q_rowsOf_1_n0) : Spec A := fun args => match args with | [.d .nsl, .d (.int .i64 a1)] => fun k => g a1 (fun z0 => k (.d (.bool z0)) [.undef, .undef]) | _ => fun _ => none
noncomputable def E_Q_rowsOf_1_n0 (g : C_Q_rowsOf_1_n0) : Env A := mkE [(152, SS_slices_ContainsFunc__Row_n0_Q_rowsOf_1_1 g.slices_ContainsFunc__Row_n0_Q_rowsOf_1_1)] [(3, [0])] [] [] [] [] [] [] [] []
theorem sm_Q_rowsOf_1_n0 (g : C_Q_rowsOf_1_n0) : Same (SS_Q_rowsOf_1_n0 (@Q_rowsOf_1_n0_ g)) (abody (E_Q_rowsOf_1_n0 g) Tryz.f206 code_206 1 [] [.asis] g.N) := by intro args; unfold SS_Q_rowsOf_1_n0; split; exact .inr fun R k => (by kernel_rfl); exact .inl fun R k => rfl
theorem ok_Q_rowsOf_1_n0 [Fuel] : Ok 206 (SS_Q_rowsOf_1_n0 (@Q_rowsOf_1_n0 _)) := okF_of std (.cons ok_slices_ContainsFunc__Row_n0_Q_rowsOf_1_1 .nil) ⟨rfl, rfl, by kernel_rfl, rfl, rfl⟩ (sm_Q_rowsOf_1_n0 I_Q_rowsOf_1_n0) (cuts0 (fun _ => rfl) (by kernel_rfl)) Tryz.func206 (by kernel_rfl) (by kernel_rfl)
abbrev T_Q_rowsOf_n1 : Type 1 := List G_Row → {R : Type} → (List G_Row → Option R) → Option R
structure C_Q_rowsOf_n1 where
  N : Nat
  slices_Concat__Row : T_slices_Concat__Row
  slices_Sort__int : T_slices_Sort__int
  slices_Compact__int : T_slices_Compact__int
  Q_rowsOf_1 : T_Q_rowsOf_1
  Q_rowsOf_1_n0 : T_Q_rowsOf_1_n0
def Q_rowsOf_n1_L3 (g : C_Q_rowsOf_n1) : Nat → List G_Row → Int → Int → List G_Row → List Int → {R : Type} → (List G_Row → List Int → Option R) → Option R
  | 0, _, _, _, _, _, _, _ => none
  | n + 1, v3, v4, v5, v6, v7, _, e0 => (bif (decide (v5 < v4)) then (inr v6 v5 (at_ v6 v5 fun x9 => (bif (decide ((v7.length + [x9.f_From, x9.f_To].length) * 8 ≤ roomBytes')) then Q_rowsOf_n1_L3 g n v3 v4 (w64 (v5 + 1)) v6 (v7 ++ [x9.f_From, x9.f_To]) e0 else none))) else e0 v3 v7)
def Q_rowsOf_n1_L12 (g : C_Q_rowsOf_n1) : Nat → List G_Row → Int → List Int → List G_Row → {R : Type} → (List G_Row → Option R) → Option R
  | 0, _, _, _, _, _, _ => none
  | n + 1, v14, v15, v16, v17, _, e0 => (bif (decide ((w64 (v15 + 1)) < (v16.length : Int))) then (inr v16 v15 (at_ v16 v15 fun x30 => (g.Q_rowsOf_1 v14 x30 (fun r31 => (bif (!r31) then Q_rowsOf_n1_L12 g n v14 (w64 (v15 + 1)) v16 v17 e0 else (inr v16 v15 (at_ v16 v15 fun x32 => (g.Q_rowsOf_1_n0 x32 (fun r33 => (bif r33 then Q_rowsOf_n1_L12 g n v14 (w64 (v15 + 1)) v16 v17 e0 else (bif (decide ((w64 ((v17.length : Int) - 1)) ≥ 0)) then (inr v17 (w64 ((v17.length : Int) - 1)) (at_ v17 (w64 ((v17.length : Int) - 1)) fun x34 => (inr v16 v15 (at_ v16 v15 fun x35 => (bif (x34.f_To == x35) then (inr v16 (w64 (v15 + 1)) (at_ v16 (w64 (v15 + 1)) fun x36 => (inr v17 (w64 ((v17.length : Int) - 1)) (at_ v17 (w64 ((v17.length : Int) - 1)) fun x37 => Q_rowsOf_n1_L12 g n v14 (w64 (v15 + 1)) v16 (set_ v17 (w64 ((v17.length : Int) - 1)) (⟨x37.f_From, x36⟩ : G_Row)) e0)))) else (inr v16 v15 (at_ v16 v15 fun x38 => (inr v16 (w64 (v15 + 1)) (at_ v16 (w64 (v15 + 1)) fun x39 => (bif (decide ((v17.length + [(⟨x38, x39⟩ : G_Row)].length) * 16 ≤ roomBytes')) then Q_rowsOf_n1_L12 g n v14 (w64 (v15 + 1)) v16 (v17 ++ [(⟨x38, x39⟩ : G_Row)]) e0 else none)))))))))) else (inr v16 v15 (at_ v16 v15 fun x40 => (inr v16 (w64 (v15 + 1)) (at_ v16 (w64 (v15 + 1)) fun x41 => (bif (decide ((v17.length + [(⟨x40, x41⟩ : G_Row)].length) * 16 ≤ roomBytes')) then Q_rowsOf_n1_L12 g n v14 (w64 (v15 + 1)) v16 (v17 ++ [(⟨x40, x41⟩ : G_Row)]) e0 else none)))))))))))))))) else e0 v17)
def Q_rowsOf_n1_ (g : C_Q_rowsOf_n1) (a1 : List G_Row) {R : Type} (k0 : List G_Row → Option R) : Option R :=
  (g.slices_Concat__Row [a1, []] (fun r2 => (Q_rowsOf_n1_L3 g g.N a1 (r2.length : Int) 0 r2 [] (fun e10 e11 => (g.slices_Sort__int e11 (fun r12 => (g.slices_Compact__int r12 (fun r13 => (Q_rowsOf_n1_L12 g g.N e10 0 r13 [] (fun e42 => k0 e42))))))))))
noncomputable def I_Q_rowsOf_n1 [Fuel] : C_Q_rowsOf_n1 := ⟨NN, @slices_Concat__Row _, @slices_Sort__int _, @slices_Compact__int _, @Q_rowsOf_1 _, @Q_rowsOf_1_n0 _⟩
noncomputable def Q_rowsOf_n1 [Fuel] : T_Q_rowsOf_n1 := @Q_rowsOf_n1_ I_Q_rowsOf_n1
def SS_Q_rowsOf_n1 (g : T_Q_rowsOf_n1) : Spec A := fun args => match args with | [.d (.sl 98 a1), .d .nsl] => fun k => g a1 (fun z0 => k (.arr 98 z0) [.undef, .undef]) | _ => fun _ => none
def sh_Q_rowsOf_n1_L3 : SSt := mkSh 97 10 [(0, .sl 98), (1, .nsl), (5, .own 3 2), (15, .own 98 1), (16, .int .i64), (17, .int .i64)] [(1, .row 98), (2, .row 3)]
def LP_Q_rowsOf_n1_L3 (g : C_Q_rowsOf_n1) (n : Nat) : LPT A := fun ps => match ps with | [.d (.sl 98 p1), .d (.int .i64 p2), .d (.int .i64 p3), .d (.sl 98 p4), .d (.sl 3 p5)] => fun K => Q_rowsOf_n1_L3 g n p1 p2 p3 p4 p5 (fun z0 z1 => K (.exit 0) (mkSt 97 10 [(0, .d (.sl 98 z0)), (1, .d .nsl), (5, .own 3 2)] [(2, some (.row 3 z1))])) | _ => fun _ => none
def sh_Q_rowsOf_n1_L12 : SSt := mkSh 97 10 [(0, .sl 98), (1, .nsl), (5, .own 3 6), (8, .fn 206 []), (9, .own 98 7), (10, .int .i64)] [(6, .row 3), (7, .row 98)]
def LP_Q_rowsOf_n1_L12 (g : C_Q_rowsOf_n1) (n : Nat) : LPT A := fun ps => match ps with | [.d (.sl 98 p1), .d (.int .i64 p2), .d (.sl 3 p3), .d (.sl 98 p4)] => fun K => Q_rowsOf_n1_L12 g n p1 p2 p3 p4 (fun z0 => K (.exit 2) (mkSt 97 10 [(9, .own 98 7)] [(7, some (.row 98 z0))])) | _ => fun _ => none
noncomputable def code_158 : Code := (Tryz.f158.body).getD .skip
noncomputable def E_Q_rowsOf_n1 (g : C_Q_rowsOf_n1) : Env A := mkE [(203, SS_slices_Concat__Row g.slices_Concat__Row), (204, SS_slices_Sort__int g.slices_Sort__int), (205, SS_slices_Compact__int g.slices_Compact__int), (206, orS p_Q_rowsOf_1 (SS_Q_rowsOf_1 g.Q_rowsOf_1) (SS_Q_rowsOf_1_n0 g.Q_rowsOf_1_n0))] [(7, [3]), (14, [0]), (15, [1]), (26, [4]), (27, [5]), (32, [6]), (94, [8]), (95, [9])] [(3, ⟨[0, 1, 5, 15, 16, 17], [(5, 3, 2)], [1], []⟩), (12, ⟨[0, 1, 5, 8, 9, 10], [(9, 98, 7)], [6], []⟩)] [(3, ⟨[0, 1, 5], [], [2], []⟩), (12, ⟨[9], [], [7], []⟩)] [(3, pieceOf sh_Q_rowsOf_n1_L3 (LP_Q_rowsOf_n1_L3 g g.N)), (12, pieceOf sh_Q_rowsOf_n1_L12 (LP_Q_rowsOf_n1_L12 g g.N))] [] [] [] [(204, 0), (205, 0)] []
theorem ct_Q_rowsOf_n1 [Fuel] : NatTab (E_Q_rowsOf_n1 I_Q_rowsOf_n1).C := ct_of (P := Tryz.prog) (T := T) (.cons ok_slices_Concat__Row (.cons ok_slices_Sort__int (.cons ok_slices_Compact__int (.cons (ok_or p_Q_rowsOf_1 ok_Q_rowsOf_1 ok_Q_rowsOf_1_n0) .nil)))) (by kernel_rfl)
noncomputable def cb_Q_rowsOf_n1_L3 : Code := sub [1, 1, 0, 1, 0, 0] code_158
theorem s_Q_rowsOf_n1_L3 (g : C_Q_rowsOf_n1) (n : Nat) : StepOk (E_Q_rowsOf_n1 g) g.N cb_Q_rowsOf_n1_L3 sh_Q_rowsOf_n1_L3 (LP_Q_rowsOf_n1_L3 g) n := by intro ps; unfold LP_Q_rowsOf_n1_L3; split; exact .inr fun R K => (by kernel_rfl); exact .inl fun R K => rfl
theorem lf_Q_rowsOf_n1_L3 [Fuel] : LoopFine (E_Q_rowsOf_n1 I_Q_rowsOf_n1) NN cb_Q_rowsOf_n1_L3 := fine_loop sh_Q_rowsOf_n1_L3 (LP_Q_rowsOf_n1_L3 I_Q_rowsOf_n1) (by kernel_rfl) ct_Q_rowsOf_n1 (cuts0 (fun _ => rfl) (by kernel_rfl)) (fun ps R K => by unfold LP_Q_rowsOf_n1_L3; split <;> (try unfold Q_rowsOf_n1_L3) <;> rfl) (s_Q_rowsOf_n1_L3 I_Q_rowsOf_n1)
noncomputable def cb_Q_rowsOf_n1_L12 : Code := sub [1, 1, 1, 1, 1, 1, 1, 0, 1, 0, 0] code_158
theorem s_Q_rowsOf_n1_L12 (g : C_Q_rowsOf_n1) (n : Nat) : StepOk (E_Q_rowsOf_n1 g) g.N cb_Q_rowsOf_n1_L12 sh_Q_rowsOf_n1_L12 (LP_Q_rowsOf_n1_L12 g) n := by intro ps; unfold LP_Q_rowsOf_n1_L12; split; exact .inr fun R K => (by kernel_rfl); exact .inl fun R K => rfl
theorem lf_Q_rowsOf_n1_L12 [Fuel] : LoopFine (E_Q_rowsOf_n1 I_Q_rowsOf_n1) NN cb_Q_rowsOf_n1_L12 := fine_loop sh_Q_rowsOf_n1_L12 (LP_Q_rowsOf_n1_L12 I_Q_rowsOf_n1) (by kernel_rfl) ct_Q_rowsOf_n1 (cuts0 (fun _ => rfl) (by kernel_rfl)) (fun ps R K => by unfold LP_Q_rowsOf_n1_L12; split <;> (try unfold Q_rowsOf_n1_L12) <;> rfl) (s_Q_rowsOf_n1_L12 I_Q_rowsOf_n1)
theorem sm_Q_rowsOf_n1 (g : C_Q_rowsOf_n1) : Same (SS_Q_rowsOf_n1 (@Q_rowsOf_n1_ g)) (abody (E_Q_rowsOf_n1 g) Tryz.f158 code_158 10 [] [.arr 98] g.N) := by intro args; unfold SS_Q_rowsOf_n1; split; exact .inr fun R k => (by kernel_rfl); exact .inl fun R k => rfl
theorem ok_Q_rowsOf_n1 [Fuel] : Ok 158 (SS_Q_rowsOf_n1 (@Q_rowsOf_n1 _)) := okF_of std (.cons ok_slices_Concat__Row (.cons ok_slices_Sort__int (.cons ok_slices_Compact__int (.cons (ok_or p_Q_rowsOf_1 ok_Q_rowsOf_1 ok_Q_rowsOf_1_n0) .nil)))) ⟨rfl, rfl, by kernel_rfl, rfl, rfl⟩ (sm_Q_rowsOf_n1 I_Q_rowsOf_n1) (cutsL (fun _ => rfl) (.cons lf_Q_rowsOf_n1_L3 (.cons lf_Q_rowsOf_n1_L12 .nil)) (by kernel_rfl)) Tryz.func158 (by kernel_rfl) (by kernel_rfl)
abbrev T_Q_WindowsOf : Type 1 := List G_Segment → List UInt8 → Int → Int → {R : Type} → (List G_Row → Option R) → Option R
structure C_Q_WindowsOf where
  N : Nat
  Q_rowsOf_n1 : T_Q_rowsOf_n1
  Q_permitted : T_Q_permitted
def Q_WindowsOf_ (g : C_Q_WindowsOf) (a1 : List G_Segment) (a2 : List UInt8) (a3 a4 : Int) {R : Type} (k0 : List G_Row → Option R) : Option R :=
  (g.Q_permitted a1 a2 a3 a4 (fun r5 => (g.Q_rowsOf_n1 r5 (fun r6 => k0 r6))))
noncomputable def I_Q_WindowsOf [Fuel] : C_Q_WindowsOf := ⟨NN, @Q_rowsOf_n1 _, @Q_permitted _⟩
noncomputable def Q_WindowsOf [Fuel] : T_Q_WindowsOf := @Q_WindowsOf_ I_Q_WindowsOf
def SS_Q_WindowsOf (g : T_Q_WindowsOf) : Spec A := fun args => match args with | [.d (.sl 172 a1), .d (.str a2), .d (.int .i64 a3), .d (.int .i64 a4)] => fun k => g a1 a2 a3 a4 (fun z0 => k (.arr 98 z0) [.undef, .undef, .undef, .undef]) | _ => fun _ => none
noncomputable def code_64 : Code := (Tryz.f64.body).getD .skip
noncomputable def E_Q_WindowsOf (g : C_Q_WindowsOf) : Env A := mkE [(158, SS_Q_rowsOf_n1 g.Q_rowsOf_n1), (159, SS_Q_permitted g.Q_permitted)] [(13, [0]), (14, [1])] [] [] [] [] [] [] [] []
theorem sm_Q_WindowsOf (g : C_Q_WindowsOf) : Same (SS_Q_WindowsOf (@Q_WindowsOf_ g)) (abody (E_Q_WindowsOf g) Tryz.f64 code_64 2 [] [.arr 98] g.N) := by intro args; unfold SS_Q_WindowsOf; split; exact .inr fun R k => (by kernel_rfl); exact .inl fun R k => rfl
theorem ok_Q_WindowsOf [Fuel] : Ok 64 (SS_Q_WindowsOf (@Q_WindowsOf _)) := okF_of std (.cons ok_Q_rowsOf_n1 (.cons ok_Q_permitted .nil)) ⟨rfl, rfl, by kernel_rfl, rfl, rfl⟩ (sm_Q_WindowsOf I_Q_WindowsOf) (cuts0 (fun _ => rfl) (by kernel_rfl)) Tryz.func64 (by kernel_rfl) (by kernel_rfl)
abbrev T_Q_rowsOf : Type 1 := List G_Row → List G_Row → {R : Type} → (List G_Row → Option R) → Option R
structure C_Q_rowsOf where
  N : Nat
  slices_Concat__Row : T_slices_Concat__Row
  slices_Sort__int : T_slices_Sort__int
  slices_Compact__int : T_slices_Compact__int
  Q_rowsOf_1 : T_Q_rowsOf_1
def Q_rowsOf_L3 (g : C_Q_rowsOf) : Nat → List G_Row → List G_Row → Int → Int → List G_Row → List Int → {R : Type} → (List G_Row → List G_Row → List Int → Option R) → Option R
  | 0, _, _, _, _, _, _, _, _ => none
  | n + 1, v4, v5, v6, v7, v8, v9, _, e0 => (bif (decide (v7 < v6)) then (inr v8 v7 (at_ v8 v7 fun x11 => (bif (decide ((v9.length + [x11.f_From, x11.f_To].length) * 8 ≤ roomBytes')) then Q_rowsOf_L3 g n v4 v5 v6 (w64 (v7 + 1)) v8 (v9 ++ [x11.f_From, x11.f_To]) e0 else none))) else e0 v4 v5 v9)
def Q_rowsOf_L12 (g : C_Q_rowsOf) : Nat → List G_Row → List G_Row → Int → List Int → List G_Row → {R : Type} → (List G_Row → Option R) → Option R
  | 0, _, _, _, _, _, _, _ => none
  | n + 1, v17, v18, v19, v20, v21, _, e0 => (bif (decide ((w64 (v19 + 1)) < (v20.length : Int))) then (inr v20 v19 (at_ v20 v19 fun x34 => (g.Q_rowsOf_1 v17 x34 (fun r35 => (bif (!r35) then Q_rowsOf_L12 g n v17 v18 (w64 (v19 + 1)) v20 v21 e0 else (inr v20 v19 (at_ v20 v19 fun x36 => (g.Q_rowsOf_1 v18 x36 (fun r37 => (bif r37 then Q_rowsOf_L12 g n v17 v18 (w64 (v19 + 1)) v20 v21 e0 else (bif (decide ((w64 ((v21.length : Int) - 1)) ≥ 0)) then (inr v21 (w64 ((v21.length : Int) - 1)) (at_ v21 (w64 ((v21.length : Int) - 1)) fun x38 => (inr v20 v19 (at_ v20 v19 fun x39 => (bif (x38.f_To == x39) then (inr v20 (w64 (v19 + 1)) (at_ v20 (w64 (v19 + 1)) fun x40 => (inr v21 (w64 ((v21.length : Int) - 1)) (at_ v21 (w64 ((v21.length : Int) - 1)) fun x41 => Q_rowsOf_L12 g n v17 v18 (w64 (v19 + 1)) v20 (set_ v21 (w64 ((v21.length : Int) - 1)) (⟨x41.f_From, x40⟩ : G_Row)) e0)))) else (inr v20 v19 (at_ v20 v19 fun x42 => (inr v20 (w64 (v19 + 1)) (at_ v20 (w64 (v19 + 1)) fun x43 => (bif (decide ((v21.length + [(⟨x42, x43⟩ : G_Row)].length) * 16 ≤ roomBytes')) then Q_rowsOf_L12 g n v17 v18 (w64 (v19 + 1)) v20 (v21 ++ [(⟨x42, x43⟩ : G_Row)]) e0 else none)))))))))) else (inr v20 v19 (at_ v20 v19 fun x44 => (inr v20 (w64 (v19 + 1)) (at_ v20 (w64 (v19 + 1)) fun x45 => (bif (decide ((v21.length + [(⟨x44, x45⟩ : G_Row)].length) * 16 ≤ roomBytes')) then Q_rowsOf_L12 g n v17 v18 (w64 (v19 + 1)) v20 (v21 ++ [(⟨x44, x45⟩ : G_Row)]) e0 else none)))))))))))))))) else e0 v21)
def Q_rowsOf_ (g : C_Q_rowsOf) (a1 a2 : List G_Row) {R : Type} (k0 : List G_Row → Option R) : Option R :=
  (g.slices_Concat__Row [a1, a2] (fun r3 => (Q_rowsOf_L3 g g.N a1 a2 (r3.length : Int) 0 r3 [] (fun e12 e13 e14 => (g.slices_Sort__int e14 (fun r15 => (g.slices_Compact__int r15 (fun r16 => (Q_rowsOf_L12 g g.N e12 e13 0 r16 [] (fun e46 => k0 e46))))))))))
noncomputable def I_Q_rowsOf [Fuel] : C_Q_rowsOf := ⟨NN, @slices_Concat__Row _, @slices_Sort__int _, @slices_Compact__int _, @Q_rowsOf_1 _⟩
noncomputable def Q_rowsOf [Fuel] : T_Q_rowsOf := @Q_rowsOf_ I_Q_rowsOf
def SS_Q_rowsOf (g : T_Q_rowsOf) : Spec A := fun args => match args with | [.d (.sl 98 a1), .d (.sl 98 a2)] => fun k => g a1 a2 (fun z0 => k (.arr 98 z0) [.undef, .undef]) | _ => fun _ => none
def sh_Q_rowsOf_L3 : SSt := mkSh 97 10 [(0, .sl 98), (1, .sl 98), (5, .own 3 2), (15, .own 98 1), (16, .int .i64), (17, .int .i64)] [(1, .row 98), (2, .row 3)]
def LP_Q_rowsOf_L3 (g : C_Q_rowsOf) (n : Nat) : LPT A := fun ps => match ps with | [.d (.sl 98 p1), .d (.sl 98 p2), .d (.int .i64 p3), .d (.int .i64 p4), .d (.sl 98 p5), .d (.sl 3 p6)] => fun K => Q_rowsOf_L3 g n p1 p2 p3 p4 p5 p6 (fun z0 z1 z2 => K (.exit 0) (mkSt 97 10 [(0, .d (.sl 98 z0)), (1, .d (.sl 98 z1)), (5, .own 3 2)] [(2, some (.row 3 z2))])) | _ => fun _ => none
def sh_Q_rowsOf_L12 : SSt := mkSh 97 10 [(0, .sl 98), (1, .sl 98), (5, .own 3 6), (8, .fn 206 []), (9, .own 98 7), (10, .int .i64)] [(6, .row 3), (7, .row 98)]
def LP_Q_rowsOf_L12 (g : C_Q_rowsOf) (n : Nat) : LPT A := fun ps => match ps with | [.d (.sl 98 p1), .d (.sl 98 p2), .d (.int .i64 p3), .d (.sl 3 p4), .d (.sl 98 p5)] => fun K => Q_rowsOf_L12 g n p1 p2 p3 p4 p5 (fun z0 => K (.exit 2) (mkSt 97 10 [(9, .own 98 7)] [(7, some (.row 98 z0))])) | _ => fun _ => none
noncomputable def E_Q_rowsOf (g : C_Q_rowsOf) : Env A := mkE [(203, SS_slices_Concat__Row g.slices_Concat__Row), (204, SS_slices_Sort__int g.slices_Sort__int), (205, SS_slices_Compact__int g.slices_Compact__int), (206, SS_Q_rowsOf_1 g.Q_rowsOf_1)] [(7, [3]), (14, [0]), (15, [1]), (26, [4]), (27, [5]), (32, [6]), (94, [8]), (95, [9])] [(3, ⟨[0, 1, 5, 15, 16, 17], [(5, 3, 2)], [1], []⟩), (12, ⟨[0, 1, 5, 8, 9, 10], [(9, 98, 7)], [6], []⟩)] [(3, ⟨[0, 1, 5], [], [2], []⟩), (12, ⟨[9], [], [7], []⟩)] [(3, pieceOf sh_Q_rowsOf_L3 (LP_Q_rowsOf_L3 g g.N)), (12, pieceOf sh_Q_rowsOf_L12 (LP_Q_rowsOf_L12 g g.N))] [] [] [] [(204, 0), (205, 0)] []
theorem ct_Q_rowsOf [Fuel] : NatTab (E_Q_rowsOf I_Q_rowsOf).C := ct_of (P := Tryz.prog) (T := T) (.cons ok_slices_Concat__Row (.cons ok_slices_Sort__int (.cons ok_slices_Compact__int (.cons ok_Q_rowsOf_1 .nil)))) (by kernel_rfl)
noncomputable def cb_Q_rowsOf_L3 : Code := sub [1, 1, 0, 1, 0, 0] code_158
theorem s_Q_rowsOf_L3 (g : C_Q_rowsOf) (n : Nat) : StepOk (E_Q_rowsOf g) g.N cb_Q_rowsOf_L3 sh_Q_rowsOf_L3 (LP_Q_rowsOf_L3 g) n := by intro ps; unfold LP_Q_rowsOf_L3; split; exact .inr fun R K => (by kernel_rfl); exact .inl fun R K => rfl
theorem lf_Q_rowsOf_L3 [Fuel] : LoopFine (E_Q_rowsOf I_Q_rowsOf) NN cb_Q_rowsOf_L3 := fine_loop sh_Q_rowsOf_L3 (LP_Q_rowsOf_L3 I_Q_rowsOf) (by kernel_rfl) ct_Q_rowsOf (cuts0 (fun _ => rfl) (by kernel_rfl)) (fun ps R K => by unfold LP_Q_rowsOf_L3; split <;> (try unfold Q_rowsOf_L3) <;> rfl) (s_Q_rowsOf_L3 I_Q_rowsOf)
noncomputable def cb_Q_rowsOf_L12 : Code := sub [1, 1, 1, 1, 1, 1, 1, 0, 1, 0, 0] code_158
theorem s_Q_rowsOf_L12 (g : C_Q_rowsOf) (n : Nat) : StepOk (E_Q_rowsOf g) g.N cb_Q_rowsOf_L12 sh_Q_rowsOf_L12 (LP_Q_rowsOf_L12 g) n := by intro ps; unfold LP_Q_rowsOf_L12; split; exact .inr fun R K => (by kernel_rfl); exact .inl fun R K => rfl
theorem lf_Q_rowsOf_L12 [Fuel] : LoopFine (E_Q_rowsOf I_Q_rowsOf) NN cb_Q_rowsOf_L12 := fine_loop sh_Q_rowsOf_L12 (LP_Q_rowsOf_L12 I_Q_rowsOf) (by kernel_rfl) ct_Q_rowsOf (cuts0 (fun _ => rfl) (by kernel_rfl)) (fun ps R K => by unfold LP_Q_rowsOf_L12; split <;> (try unfold Q_rowsOf_L12) <;> rfl) (s_Q_rowsOf_L12 I_Q_rowsOf)
theorem sm_Q_rowsOf (g : C_Q_rowsOf) : Same (SS_Q_rowsOf (@Q_rowsOf_ g)) (abody (E_Q_rowsOf g) Tryz.f158 code_158 10 [] [.arr 98] g.N) := by intro args; unfold SS_Q_rowsOf; split; exact .inr fun R k => (by kernel_rfl); exact .inl fun R k => rfl
theorem ok_Q_rowsOf [Fuel] : Ok 158 (SS_Q_rowsOf (@Q_rowsOf _)) := okF_of std (.cons ok_slices_Concat__Row (.cons ok_slices_Sort__int (.cons ok_slices_Compact__int (.cons ok_Q_rowsOf_1 .nil)))) ⟨rfl, rfl, by kernel_rfl, rfl, rfl⟩ (sm_Q_rowsOf I_Q_rowsOf) (cutsL (fun _ => rfl) (.cons lf_Q_rowsOf_L3 (.cons lf_Q_rowsOf_L12 .nil)) (by kernel_rfl)) Tryz.func158 (by kernel_rfl) (by kernel_rfl)
abbrev T_Q_LostOfClass : Type 1 := List G_Segment → List UInt8 → Int → Int → {R : Type} → (List G_Row → Option R) → Option R
structure C_Q_LostOfClass where
  N : Nat
  Q_rowsOf : T_Q_rowsOf
  Q_permitted : T_Q_permitted
def Q_LostOfClass_ (g : C_Q_LostOfClass) (a1 : List G_Segment) (a2 : List UInt8) (a3 a4 : Int) {R : Type} (k0 : List G_Row → Option R) : Option R :=
  (g.Q_permitted a1 a2 0 a3 (fun r5 => (g.Q_permitted a1 a2 0 a4 (fun r6 => (g.Q_rowsOf r5 r6 (fun r7 => k0 r7))))))
noncomputable def I_Q_LostOfClass [Fuel] : C_Q_LostOfClass := ⟨NN, @Q_rowsOf _, @Q_permitted _⟩
noncomputable def Q_LostOfClass [Fuel] : T_Q_LostOfClass := @Q_LostOfClass_ I_Q_LostOfClass
def SS_Q_LostOfClass (g : T_Q_LostOfClass) : Spec A := fun args => match args with | [.d (.sl 172 a1), .d (.str a2), .d (.int .i64 a3), .d (.int .i64 a4)] => fun k => g a1 a2 a3 a4 (fun z0 => k (.arr 98 z0) [.undef, .undef, .undef, .undef]) | _ => fun _ => none
noncomputable def code_65 : Code := (Tryz.f65.body).getD .skip
noncomputable def E_Q_LostOfClass (g : C_Q_LostOfClass) : Env A := mkE [(158, SS_Q_rowsOf g.Q_rowsOf), (159, SS_Q_permitted g.Q_permitted)] [(12, [0]), (16, [1]), (17, [2])] [] [] [] [] [] [] [] []
theorem sm_Q_LostOfClass (g : C_Q_LostOfClass) : Same (SS_Q_LostOfClass (@Q_LostOfClass_ g)) (abody (E_Q_LostOfClass g) Tryz.f65 code_65 3 [] [.arr 98] g.N) := by intro args; unfold SS_Q_LostOfClass; split; exact .inr fun R k => (by kernel_rfl); exact .inl fun R k => rfl
theorem ok_Q_LostOfClass [Fuel] : Ok 65 (SS_Q_LostOfClass (@Q_LostOfClass _)) := okF_of std (.cons ok_Q_rowsOf (.cons ok_Q_permitted .nil)) ⟨rfl, rfl, by kernel_rfl, rfl, rfl⟩ (sm_Q_LostOfClass I_Q_LostOfClass) (cuts0 (fun _ => rfl) (by kernel_rfl)) Tryz.func65 (by kernel_rfl) (by kernel_rfl)
abbrev T_Q_uses : Type 1 := Int → Int → {R : Type} → (G_Row → Option R) → Option R
def Q_uses_ (g : Nat) (a1 a2 : Int) {R : Type} (k0 : G_Row → Option R) : Option R :=
  k0 (⟨(w64 (a1 - (w64 (Int.tdiv a2 2)))), (w64 ((w64 (a1 - (w64 (Int.tdiv a2 2)))) + a2))⟩ : G_Row)
noncomputable def Q_uses [Fuel] : T_Q_uses := @Q_uses_ NN
def SS_Q_uses (g : T_Q_uses) : Spec A := fun args => match args with | [.d (.int .i64 a1), .d (.int .i64 a2)] => fun k => g a1 a2 (fun z0 => k (.agg [.d (.int .i64 z0.f_From), .d (.int .i64 z0.f_To)]) [.undef, .undef]) | _ => fun _ => none
noncomputable def code_163 : Code := (Tryz.f163.body).getD .skip
noncomputable def E_Q_uses (g : Nat) : Env A := mkE [] [(4, [0])] [] [] [] [] [] [] [] []
theorem sm_Q_uses (g : Nat) : Same (SS_Q_uses (@Q_uses_ g)) (abody (E_Q_uses g) Tryz.f163 code_163 1 [] [.asis] g) := by intro args; unfold SS_Q_uses; split; exact .inr fun R k => (by kernel_rfl); exact .inl fun R k => rfl
theorem ok_Q_uses [Fuel] : Ok 163 (SS_Q_uses (@Q_uses _)) := okF_of std .nil ⟨rfl, rfl, by kernel_rfl, rfl, rfl⟩ (sm_Q_uses NN) (cuts0 (fun _ => rfl) (by kernel_rfl)) Tryz.func163 (by kernel_rfl) (by kernel_rfl)
abbrev T_Q_MayFor : Type 1 := List G_Segment → List UInt8 → Int → Int → Int → Int → {R : Type} → (Bool → Option R) → Option R
structure C_Q_MayFor where
  N : Nat
  Q_rowsOf : T_Q_rowsOf
  Q_permitted : T_Q_permitted
  Q_uses : T_Q_uses
def Q_MayFor_ (g : C_Q_MayFor) (a1 : List G_Segment) (a2 : List UInt8) (a3 a4 a5 a6 : Int) {R : Type} (k0 : Bool → Option R) : Option R :=
  (g.Q_uses a3 a4 (fun r7 => (g.Q_permitted a1 a2 a5 a6 (fun r8 => (g.Q_rowsOf [r7] r8 (fun r9 => k0 ((r9.length : Int) == 0)))))))
noncomputable def I_Q_MayFor [Fuel] : C_Q_MayFor := ⟨NN, @Q_rowsOf _, @Q_permitted _, @Q_uses _⟩
noncomputable def Q_MayFor [Fuel] : T_Q_MayFor := @Q_MayFor_ I_Q_MayFor
def SS_Q_MayFor (g : T_Q_MayFor) : Spec A := fun args => match args with | [.d (.sl 172 a1), .d (.str a2), .d (.int .i64 a3), .d (.int .i64 a4), .d (.int .i64 a5), .d (.int .i64 a6)] => fun k => g a1 a2 a3 a4 a5 a6 (fun z0 => k (.d (.bool z0)) [.undef, .undef, .undef, .undef, .undef, .undef]) | _ => fun _ => none
noncomputable def code_67 : Code := (Tryz.f67.body).getD .skip
noncomputable def E_Q_MayFor (g : C_Q_MayFor) : Env A := mkE [(158, SS_Q_rowsOf g.Q_rowsOf), (159, SS_Q_permitted g.Q_permitted), (163, SS_Q_uses g.Q_uses)] [(13, [0]), (18, [1]), (23, [2]), (24, [3])] [] [] [] [] [] [] [] []
theorem sm_Q_MayFor (g : C_Q_MayFor) : Same (SS_Q_MayFor (@Q_MayFor_ g)) (abody (E_Q_MayFor g) Tryz.f67 code_67 4 [] [.asis] g.N) := by intro args; unfold SS_Q_MayFor; split; exact .inr fun R k => (by kernel_rfl); exact .inl fun R k => rfl
theorem ok_Q_MayFor [Fuel] : Ok 67 (SS_Q_MayFor (@Q_MayFor _)) := okF_of std (.cons ok_Q_rowsOf (.cons ok_Q_permitted (.cons ok_Q_uses .nil))) ⟨rfl, rfl, by kernel_rfl, rfl, rfl⟩ (sm_Q_MayFor I_Q_MayFor) (cuts0 (fun _ => rfl) (by kernel_rfl)) Tryz.func67 (by kernel_rfl) (by kernel_rfl)
abbrev T_slices_Equal__Row : Type 1 := List G_Row → List G_Row → {R : Type} → (Bool → Option R) → Option R
def slices_Equal__Row_L4 (g : Nat) : Nat → List G_Row → List G_Row → Int → Int → {R : Type} → (Bool → Option R) → Option R → Option R
  | 0, _, _, _, _, _, _, _ => none
  | n + 1, v3, v4, v5, v6, _, e0, e1 => (bif (decide (v6 < v5)) then (get_ v3 v6 fun x9 => (get_ v4 v6 fun x10 => (bif (!(eq_G_Row x9 x10)) then e0 false else slices_Equal__Row_L4 g n v3 v4 v5 (w64 (v6 + 1)) e0 e1))) else e1)
def slices_Equal__Row_ (g : Nat) (a1 a2 : List G_Row) {R : Type} (k0 : Bool → Option R) : Option R :=
  (bif ((a1.length : Int) != (a2.length : Int)) then k0 false else (slices_Equal__Row_L4 g g a1 a2 (a1.length : Int) 0 (fun e11 => k0 e11) (k0 true)))
noncomputable def slices_Equal__Row [Fuel] : T_slices_Equal__Row := @slices_Equal__Row_ NN
def p_slices_Equal__Row (args : List (IV A)) : Bool := match args with | [.d (.sl 98 _), .d (.sl 98 _)] => true | _ => false
def SS_slices_Equal__Row (g : T_slices_Equal__Row) : Spec A := fun args => match args with | [.d (.sl 98 a1), .d (.sl 98 a2)] => fun k => g a1 a2 (fun z0 => k (.d (.bool z0)) [.undef, .undef]) | _ => fun _ => none
def sh_slices_Equal__Row_L4 : SSt := mkSh 26 0 [(0, .sl 98), (1, .sl 98), (12, .int .i64), (13, .int .i64)] []
def LP_slices_Equal__Row_L4 (g : Nat) (n : Nat) : LPT A := fun ps => match ps with | [.d (.sl 98 p1), .d (.sl 98 p2), .d (.int .i64 p3), .d (.int .i64 p4)] => fun K => slices_Equal__Row_L4 g n p1 p2 p3 p4 (fun z0 => K .ret (mkSt 26 0 [(4, .d (.bool z0))] [])) (K (.exit 0) (mkSt 26 0 [] [])) | _ => fun _ => none
noncomputable def code_68 : Code := (Tryz.f68.body).getD .skip
noncomputable def E_slices_Equal__Row (g : Nat) : Env A := mkE [] [] [(4, ⟨[0, 1, 12, 13], [], [], []⟩)] [(4, ⟨[4], [], [], []⟩)] [(4, pieceOf sh_slices_Equal__Row_L4 (LP_slices_Equal__Row_L4 g g))] [] [] [] [] []
theorem ct_slices_Equal__Row [Fuel] : NatTab (E_slices_Equal__Row NN).C := ct_of (P := Tryz.prog) (T := T) .nil (by kernel_rfl)
noncomputable def cb_slices_Equal__Row_L4 : Code := sub [1, 1, 0, 1, 0, 0] code_68
theorem s_slices_Equal__Row_L4 (g : Nat) (n : Nat) : StepOk (E_slices_Equal__Row g) g cb_slices_Equal__Row_L4 sh_slices_Equal__Row_L4 (LP_slices_Equal__Row_L4 g) n := by intro ps; unfold LP_slices_Equal__Row_L4; split; exact .inr fun R K => (by kernel_rfl); exact .inl fun R K => rfl
theorem lf_slices_Equal__Row_L4 [Fuel] : LoopFine (E_slices_Equal__Row NN) NN cb_slices_Equal__Row_L4 := fine_loop sh_slices_Equal__Row_L4 (LP_slices_Equal__Row_L4 NN) (by kernel_rfl) ct_slices_Equal__Row (cuts0 (fun _ => rfl) (by kernel_rfl)) (fun ps R K => by unfold LP_slices_Equal__Row_L4; split <;> (try unfold slices_Equal__Row_L4) <;> rfl) (s_slices_Equal__Row_L4 NN)
theorem sm_slices_Equal__Row (g : Nat) : Same (SS_slices_Equal__Row (@slices_Equal__Row_ g)) (abody (E_slices_Equal__Row g) Tryz.f68 code_68 0 [] [.asis] g) := by intro args; unfold SS_slices_Equal__Row; split; exact .inr fun R k => (by kernel_rfl); exact .inl fun R k => rfl
theorem ok_slices_Equal__Row [Fuel] : Ok 68 (SS_slices_Equal__Row (@slices_Equal__Row _)) := okF_of std .nil ⟨rfl, rfl, by kernel_rfl, rfl, rfl⟩ (sm_slices_Equal__Row NN) (cutsL (fun _ => rfl) (.cons lf_slices_Equal__Row_L4 .nil) (by kernel_rfl)) Tryz.func68 (by kernel_rfl) (by kernel_rfl)
abbrev T_law_banded : Type 1 := {R : Type} → (Bool → Option R) → Option R
structure C_law_banded where
  N : Nat
  band_May : T_band_May
def law_banded_ (g : C_law_banded)  {R : Type} (k0 : Bool → Option R) : Option R :=
  (g.band_May [(⟨[99], 5, 8, [1], (⟨0, 9⟩ : G_Window)⟩ : G_Segment)] [99] 6 3 1 0 (fun r1 r2 => (bif (r2 == 0) then k0 r1 else k0 false)))
noncomputable def I_law_banded [Fuel] : C_law_banded := ⟨NN, @band_May _⟩
noncomputable def law_banded [Fuel] : T_law_banded := @law_banded_ I_law_banded
def SS_law_banded (g : T_law_banded) : Spec A := fun args => match args with | [] => fun k => g (fun z0 => k (.d (.bool z0)) []) | _ => fun _ => none
noncomputable def code_69 : Code := (Tryz.f69.body).getD .skip
noncomputable def E_law_banded (g : C_law_banded) : Env A := mkE [(56, SS_band_May g.band_May)] [(4, [0]), (7, [1])] [] [] [] [] [] [] [] []
theorem sm_law_banded (g : C_law_banded) : Same (SS_law_banded (@law_banded_ g)) (abody (E_law_banded g) Tryz.f69 code_69 2 [] [.asis] g.N) := by intro args; unfold SS_law_banded; split; exact .inr fun R k => (by kernel_rfl); exact .inl fun R k => rfl
theorem ok_law_banded [Fuel] : Ok 69 (SS_law_banded (@law_banded _)) := okF_of std (.cons ok_band_May .nil) ⟨rfl, rfl, by kernel_rfl, rfl, rfl⟩ (sm_law_banded I_law_banded) (cuts0 (fun _ => rfl) (by kernel_rfl)) Tryz.func69 (by kernel_rfl) (by kernel_rfl)
end Go.Am
