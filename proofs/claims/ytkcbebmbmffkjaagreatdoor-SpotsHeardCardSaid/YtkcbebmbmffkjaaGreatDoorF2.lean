/- The functions of the program as Lean functions, each shown to be what the code computes, part 2. No condition: lemmas for the claim. -/
import Derived.Test.YtkcbebmbmffkjaaGreatDoorF0
import Derived.Test.YtkcbebmbmffkjaaGreatDoorFSh
import Derived.Test.YtkcbebmbmffkjaaGreatDoorF1
set_option linter.unusedVariables false
set_option maxRecDepth 100000
namespace Go.Am
open Go Go.Proofs
abbrev T_z10z : Type 1 := G_Spot → G_Spot → {R : Type} → (Int → Option R) → Option R
structure C_z10z where
 N : Nat
 z25z : T_z25z
 z17z : T_z17z
def z10z_ (g : C_z10z) (a1 a2 : G_Spot) {R : Type} (k0 : Int → Option R) : Option R :=
 (g.z25z [a1.f_At, a1.f_Hertz] [a2.f_At, a2.f_Hertz] (fun r3 => (bif (r3 != 0) then k0 r3 else (g.z17z [a1.f_Call, a1.f_By] [a2.f_Call, a2.f_By] (fun r4 => k0 r4)))))
noncomputable def I_z10z [Fuel] : C_z10z := ⟨NN, @z25z _, @z17z _⟩
noncomputable def z10z [Fuel] : T_z10z := @z10z_ I_z10z
def SS_z10z (g : T_z10z) : Spec A := fun args => match args with | [.agg [.d (.int .i64 a1), .d (.int .i64 a2), .d (.str a3), .d (.str a4)], .agg [.d (.int .i64 a5), .d (.int .i64 a6), .d (.str a7), .d (.str a8)]] => fun k => g ⟨a1, a2, a3, a4⟩ ⟨a5, a6, a7, a8⟩ (fun z0 => k (.d (.int .i64 z0)) [.undef, .undef]) | _ => fun _ => none
noncomputable def code_40 : Code := (Tryz.f40.body).getD .skip
noncomputable def E_z10z (g : C_z10z) : Env A := mkE [(90, SS_z25z g.z25z), (91, SS_z17z g.z17z)] [(2, [0]), (3, [1]), (10, [2]), (15, [3]), (24, [4]), (29, [5])] [] [] [] [] [] [] [] []
theorem sm_z10z (g : C_z10z) : Same (SS_z10z (@z10z_ g)) (abody (E_z10z g) Tryz.f40 code_40 6 [] [.asis] g.N) := by intro args; unfold SS_z10z; split; exact .inr fun R k => (by kernel_rfl); exact .inl fun R k => rfl
theorem ok_z10z [Fuel] : Ok 40 (SS_z10z (@z10z _)) := okF_of std (.cons ok_z25z (.cons ok_z17z .nil)) ⟨rfl, rfl, by kernel_rfl, rfl, rfl, rfl⟩ (sm_z10z I_z10z) (cuts0 (fun _ => rfl) (by kernel_rfl)) Tryz.func40 (by kernel_rfl) (by kernel_rfl)
noncomputable def Ed_z10z (g : C_z10z) : Env A := mkED [(90, SS_z25z g.z25z), (91, SS_z17z g.z17z)] [(2, [0]), (3, [1]), (10, [2]), (15, [3]), (24, [4]), (29, [5])] [] [] [] [] [] [] [] []
theorem smd_z10z (g : C_z10z) : Same (SS_z10z (@z10z_ g)) (abody (Ed_z10z g) Tryz.f40 code_40 6 [] [.asis] g.N) := by intro args; unfold SS_z10z; split; exact .inr fun R k => (by kernel_rfl); exact .inl fun R k => rfl
theorem okd_z10z [Fuel] : OkD 40 (SS_z10z (@z10z _)) := okF_of stdD (.cons okd_z25z (.cons okd_z17z .nil)) ⟨rfl, rfl, by kernel_rfl, rfl, rfl, rfl⟩ (smd_z10z I_z10z) (cuts0 (fun _ => rfl) (by kernel_rfl)) Tryz.func40 (by kernel_rfl) (by kernel_rfl)
abbrev T_z8z : Type 1 := List G_Spot → Int → Int → {R : Type} → (List G_Spot → Option R) → Option R
structure C_z8z where
 N : Nat
 z10z : T_z10z
def z8z_L4 (g : C_z8z) : Nat → Int → Int → Int → Int → List G_Spot → {R : Type} → (Int → Int → Int → List G_Spot → Option R) → Option R
 | 0, _, _, _, _, _, _, _ => none
 | n + 1, v31, v32, v33, v34, v35, _, e0 => (bif (decide (v34 > v31)) then (inr v35 v34 (at_ v35 v34 fun x43 => (inr v35 (w64 (v34 - 1)) (at_ v35 (w64 (v34 - 1)) fun x44 => (g.z10z x43 x44 (fun r45 => (bif (decide (r45 < 0)) then (inr v35 (w64 (v34 - 1)) (at_ v35 (w64 (v34 - 1)) fun x46 => (inr v35 v34 (at_ v35 v34 fun x47 => (inr v35 v34 (at_ v35 v34 fun x48 => (inr (set_ v35 v34 x46) (w64 (v34 - 1)) (at_ (set_ v35 v34 x46) (w64 (v34 - 1)) fun x49 => z8z_L4 g n v31 v32 v33 (w64 (v34 - 1)) (set_ (set_ v35 v34 x46) (w64 (v34 - 1)) x47) e0)))))))) else e0 v31 v32 v33 v35))))))) else e0 v31 v32 v33 v35)
def z8z_L1 (g : C_z8z) : Nat → Int → Int → Int → List G_Spot → {R : Type} → (List G_Spot → Option R) → Option R
 | 0, _, _, _, _, _, _ => none
 | n + 1, v4, v5, v6, v7, _, e0 => (bif (decide (v6 < v5)) then (z8z_L4 g g.N v4 v5 v6 v6 v7 (fun e50 e51 e52 e53 => z8z_L1 g n e50 e51 (w64 (e52 + 1)) e53 e0)) else e0 v7)
def z8z_ (g : C_z8z) (a1 : List G_Spot) (a2 a3 : Int) {R : Type} (k0 : List G_Spot → Option R) : Option R :=
 (z8z_L1 g g.N a2 a3 (w64 (a2 + 1)) a1 (fun e54 => k0 e54))
noncomputable def I_z8z [Fuel] : C_z8z := ⟨NN, @z10z _⟩
noncomputable def z8z [Fuel] : T_z8z := @z8z_ I_z8z
def SS_z8z (g : T_z8z) : Spec A := fun args => match args with | [.arr 52 a1, .d (.int .i64 a2), .d (.int .i64 a3), .fn 40 []] => fun k => g a1 a2 a3 (fun z0 => k (.tup []) [.arr 52 z0, .undef, .undef, .fn 40 []]) | _ => fun _ => none
def sh_z8z_L4 : SSt := mkSh 53 1 [(0, .own 52 0), (1, .int .i64), (2, .int .i64), (3, .fn 40 []), (8, .int .i64), (9, .int .i64)] [(0, .row 52)]
def LP_z8z_L4 (g : C_z8z) (n : Nat) : LPT A := fun ps => match ps with | [.d (.int .i64 p1), .d (.int .i64 p2), .d (.int .i64 p3), .d (.int .i64 p4), .d (.sl 52 p5)] => fun K => z8z_L4 g n p1 p2 p3 p4 p5 (fun z0 z1 z2 z3 => K (.exit 2) (mkSt 53 1 [(0, .own 52 0), (1, .d (.int .i64 z0)), (2, .d (.int .i64 z1)), (3, .fn 40 []), (8, .d (.int .i64 z2))] [(0, some (.row 52 z3))])) | _ => fun _ => none
def sh_z8z_L1 : SSt := mkSh 53 1 [(0, .own 52 0), (1, .int .i64), (2, .int .i64), (3, .fn 40 []), (8, .int .i64)] [(0, .row 52)]
def LP_z8z_L1 (g : C_z8z) (n : Nat) : LPT A := fun ps => match ps with | [.d (.int .i64 p1), .d (.int .i64 p2), .d (.int .i64 p3), .d (.sl 52 p4)] => fun K => z8z_L1 g n p1 p2 p3 p4 (fun z0 => K (.exit 0) (mkSt 53 1 [(0, .own 52 0), (3, .fn 40 [])] [(0, some (.row 52 z0))])) | _ => fun _ => none
noncomputable def code_128 : Code := (Tryz.f128.body).getD .skip
noncomputable def E_z8z (g : C_z8z) : Env A := mkE [(40, SS_z10z g.z10z)] [] [(4, ⟨[0, 1, 2, 3, 8, 9], [], [0], [], [], [], []⟩), (1, ⟨[0, 1, 2, 3, 8], [], [0], [], [], [], []⟩)] [(4, ⟨[0, 1, 2, 3, 8], [], [0], [], [], [], []⟩), (1, ⟨[0, 3], [], [0], [], [], [], []⟩)] [(4, pieceOf sh_z8z_L4 (LP_z8z_L4 g g.N)), (1, pieceOf sh_z8z_L1 (LP_z8z_L1 g g.N))] [] [] [] [] [0, 3]
theorem ct_z8z [Fuel] : NatTab (E_z8z I_z8z).C := ct_of (P := Tryz.prog) (T := T) (.cons ok_z10z .nil) (by kernel_rfl)
noncomputable def cb_z8z_L4 : Code := sub [1, 0, 0, 1, 0, 0, 1, 0, 0] code_128
theorem s_z8z_L4 (g : C_z8z) (n : Nat) : StepOk (E_z8z g) g.N cb_z8z_L4 sh_z8z_L4 (LP_z8z_L4 g) n := by intro ps; unfold LP_z8z_L4; split; exact .inr fun R K => (by kernel_rfl); exact .inl fun R K => rfl
theorem lf_z8z_L4 [Fuel] : LoopFine (E_z8z I_z8z) NN cb_z8z_L4 := fine_loop sh_z8z_L4 (LP_z8z_L4 I_z8z) (by kernel_rfl) ct_z8z (cuts0 (fun _ => rfl) (by kernel_rfl)) (fun ps R K => by unfold LP_z8z_L4; split <;> (try unfold z8z_L4) <;> rfl) (s_z8z_L4 I_z8z)
noncomputable def cb_z8z_L1 : Code := sub [1, 0, 0] code_128
theorem s_z8z_L1 (g : C_z8z) (n : Nat) : StepOk (E_z8z g) g.N cb_z8z_L1 sh_z8z_L1 (LP_z8z_L1 g) n := by intro ps; unfold LP_z8z_L1; split; exact .inr fun R K => (by kernel_rfl); exact .inl fun R K => rfl
theorem lf_z8z_L1 [Fuel] : LoopFine (E_z8z I_z8z) NN cb_z8z_L1 := fine_loop sh_z8z_L1 (LP_z8z_L1 I_z8z) (by kernel_rfl) ct_z8z (cutsL (fun _ => rfl) (.cons lf_z8z_L4 .nil) (by kernel_rfl)) (fun ps R K => by unfold LP_z8z_L1; split <;> (try unfold z8z_L1) <;> rfl) (s_z8z_L1 I_z8z)
theorem sm_z8z (g : C_z8z) : Same (SS_z8z (@z8z_ g)) (abody (E_z8z g) Tryz.f128 code_128 1 [0] [] g.N) := by intro args; unfold SS_z8z; split; exact .inr fun R k => (by kernel_rfl); exact .inl fun R k => rfl
theorem ok_z8z [Fuel] : Ok 128 (SS_z8z (@z8z _)) := okF_of std (.cons ok_z10z .nil) ⟨rfl, rfl, by kernel_rfl, rfl, rfl, rfl⟩ (sm_z8z I_z8z) (cutsL (fun _ => rfl) (.cons lf_z8z_L4 (.cons lf_z8z_L1 .nil)) (by kernel_rfl)) Tryz.func128 (by kernel_rfl) (by kernel_rfl)
abbrev T_z6z : Type 1 := List G_Spot → Int → {R : Type} → (List G_Spot → Option R) → Option R
structure C_z6z where
 N : Nat
 z8z : T_z8z
def z6z_L2 (g : C_z6z) : Nat → Int → Int → Int → Int → List G_Spot → {R : Type} → (Int → Int → Int → List G_Spot → Option R) → Option R
 | 0, _, _, _, _, _, _, _ => none
 | n + 1, v3, v4, v5, v6, v7, _, e0 => (bif (decide (v6 ≤ v3)) then (g.z8z v7 v5 v6 (fun r9 => z6z_L2 g n v3 v4 v6 (w64 (v6 + v4)) r9 e0)) else e0 v3 v4 v5 v7)
def z6z_L9 (g : C_z6z) : Nat → Int → Int → Int → Int → List G_Spot → {R : Type} → (Int → Int → Int → List G_Spot → Option R) → Option R
 | 0, _, _, _, _, _, _, _ => none
 | n + 1, v27, v28, v29, v30, v31, _, e0 => (bif (decide (v30 ≤ v27)) then none else e0 v27 v28 v29 v31)
def z6z_L7 (g : C_z6z) : Nat → Int → Int → List G_Spot → {R : Type} → (List G_Spot → Option R) → Option R
 | 0, _, _, _, _, _ => none
 | n + 1, v15, v16, v17, _, e0 => (bif (decide (v16 < v15)) then (z6z_L9 g g.N v15 v16 0 (w64 (2 * v16)) v17 (fun e32 e33 e34 e35 => (bif (decide ((w64 (e34 + e33)) < e32)) then none else z6z_L7 g n e32 (w64 (e33 * 2)) e35 e0))) else e0 v17)
def z6z_ (g : C_z6z) (a1 : List G_Spot) (a2 : Int) {R : Type} (k0 : List G_Spot → Option R) : Option R :=
 (z6z_L2 g g.N a2 20 0 20 a1 (fun e10 e11 e12 e13 => (g.z8z e13 e12 e10 (fun r14 => (z6z_L7 g g.N e10 e11 r14 (fun e36 => k0 e36))))))
noncomputable def I_z6z [Fuel] : C_z6z := ⟨NN, @z8z _⟩
noncomputable def z6z [Fuel] : T_z6z := @z6z_ I_z6z
def SS_z6z (g : T_z6z) : Spec A := fun args => match args with | [.arr 52 a1, .d (.int .i64 a2), .fn 40 []] => fun k => g a1 a2 (fun z0 => k (.tup []) [.arr 52 z0, .undef, .fn 40 []]) | _ => fun _ => none
def sh_z6z_L2 : SSt := mkSh 63 1 [(0, .own 52 0), (1, .int .i64), (2, .fn 40 []), (6, .int .i64), (7, .int .i64), (8, .int .i64)] [(0, .row 52)]
def LP_z6z_L2 (g : C_z6z) (n : Nat) : LPT A := fun ps => match ps with | [.d (.int .i64 p1), .d (.int .i64 p2), .d (.int .i64 p3), .d (.int .i64 p4), .d (.sl 52 p5)] => fun K => z6z_L2 g n p1 p2 p3 p4 p5 (fun z0 z1 z2 z3 => K (.exit 0) (mkSt 63 1 [(0, .own 52 0), (1, .d (.int .i64 z0)), (2, .fn 40 []), (6, .d (.int .i64 z1)), (7, .d (.int .i64 z2))] [(0, some (.row 52 z3))])) | _ => fun _ => none
def sh_z6z_L9 : SSt := mkSh 63 1 [(0, .own 52 0), (1, .int .i64), (2, .fn 40 []), (6, .int .i64), (7, .int .i64), (8, .int .i64)] [(0, .row 52)]
def LP_z6z_L9 (g : C_z6z) (n : Nat) : LPT A := fun ps => match ps with | [.d (.int .i64 p1), .d (.int .i64 p2), .d (.int .i64 p3), .d (.int .i64 p4), .d (.sl 52 p5)] => fun K => z6z_L9 g n p1 p2 p3 p4 p5 (fun z0 z1 z2 z3 => K (.exit 4) (mkSt 63 1 [(0, .own 52 0), (1, .d (.int .i64 z0)), (2, .fn 40 []), (6, .d (.int .i64 z1)), (7, .d (.int .i64 z2))] [(0, some (.row 52 z3))])) | _ => fun _ => none
def sh_z6z_L7 : SSt := mkSh 63 1 [(0, .own 52 0), (1, .int .i64), (2, .fn 40 []), (6, .int .i64)] [(0, .row 52)]
def LP_z6z_L7 (g : C_z6z) (n : Nat) : LPT A := fun ps => match ps with | [.d (.int .i64 p1), .d (.int .i64 p2), .d (.sl 52 p3)] => fun K => z6z_L7 g n p1 p2 p3 (fun z0 => K (.exit 2) (mkSt 63 1 [(0, .own 52 0), (2, .fn 40 [])] [(0, some (.row 52 z0))])) | _ => fun _ => none
noncomputable def code_89 : Code := (Tryz.f89.body).getD .skip
noncomputable def E_z6z (g : C_z6z) : Env A := mkE [(128, SS_z8z g.z8z)] [] [(2, ⟨[0, 1, 2, 6, 7, 8], [], [0], [], [], [], []⟩), (9, ⟨[0, 1, 2, 6, 7, 8], [], [0], [], [], [], []⟩), (7, ⟨[0, 1, 2, 6], [], [0], [], [], [], []⟩)] [(2, ⟨[0, 1, 2, 6, 7], [], [0], [], [], [], []⟩), (9, ⟨[0, 1, 2, 6, 7], [], [0], [], [], [], []⟩), (7, ⟨[0, 2], [], [0], [], [], [], []⟩)] [(2, pieceOf sh_z6z_L2 (LP_z6z_L2 g g.N)), (9, pieceOf sh_z6z_L9 (LP_z6z_L9 g g.N)), (7, pieceOf sh_z6z_L7 (LP_z6z_L7 g g.N))] [] [] [] [(128, 0)] [0, 2]
theorem ct_z6z [Fuel] : NatTab (E_z6z I_z6z).C := ct_of (P := Tryz.prog) (T := T) (.cons ok_z8z .nil) (by kernel_rfl)
noncomputable def cb_z6z_L2 : Code := sub [1, 1, 0, 0, 0] code_89
theorem s_z6z_L2 (g : C_z6z) (n : Nat) : StepOk (E_z6z g) g.N cb_z6z_L2 sh_z6z_L2 (LP_z6z_L2 g) n := by intro ps; unfold LP_z6z_L2; split; exact .inr fun R K => (by kernel_rfl); exact .inl fun R K => rfl
theorem lf_z6z_L2 [Fuel] : LoopFine (E_z6z I_z6z) NN cb_z6z_L2 := fine_loop sh_z6z_L2 (LP_z6z_L2 I_z6z) (by kernel_rfl) ct_z6z (cuts0 (fun _ => rfl) (by kernel_rfl)) (fun ps R K => by unfold LP_z6z_L2; split <;> (try unfold z6z_L2) <;> rfl) (s_z6z_L2 I_z6z)
noncomputable def cb_z6z_L9 : Code := sub [1, 1, 1, 1, 0, 0, 1, 0, 1, 0, 0, 0] code_89
theorem s_z6z_L9 (g : C_z6z) (n : Nat) : StepOk (E_z6z g) g.N cb_z6z_L9 sh_z6z_L9 (LP_z6z_L9 g) n := by intro ps; unfold LP_z6z_L9; split; exact .inr fun R K => (by kernel_rfl); exact .inl fun R K => rfl
theorem lf_z6z_L9 [Fuel] : LoopFine (E_z6z I_z6z) NN cb_z6z_L9 := fine_loop sh_z6z_L9 (LP_z6z_L9 I_z6z) (by kernel_rfl) ct_z6z (cuts0 (fun _ => rfl) (by kernel_rfl)) (fun ps R K => by unfold LP_z6z_L9; split <;> (try unfold z6z_L9) <;> rfl) (s_z6z_L9 I_z6z)
noncomputable def cb_z6z_L7 : Code := sub [1, 1, 1, 1, 0, 0] code_89
theorem s_z6z_L7 (g : C_z6z) (n : Nat) : StepOk (E_z6z g) g.N cb_z6z_L7 sh_z6z_L7 (LP_z6z_L7 g) n := by intro ps; unfold LP_z6z_L7; split; exact .inr fun R K => (by kernel_rfl); exact .inl fun R K => rfl
theorem lf_z6z_L7 [Fuel] : LoopFine (E_z6z I_z6z) NN cb_z6z_L7 := fine_loop sh_z6z_L7 (LP_z6z_L7 I_z6z) (by kernel_rfl) ct_z6z (cutsL (fun _ => rfl) (.cons lf_z6z_L9 .nil) (by kernel_rfl)) (fun ps R K => by unfold LP_z6z_L7; split <;> (try unfold z6z_L7) <;> rfl) (s_z6z_L7 I_z6z)
theorem sm_z6z (g : C_z6z) : Same (SS_z6z (@z6z_ g)) (abody (E_z6z g) Tryz.f89 code_89 1 [0] [] g.N) := by intro args; unfold SS_z6z; split; exact .inr fun R k => (by kernel_rfl); exact .inl fun R k => rfl
theorem ok_z6z [Fuel] : Ok 89 (SS_z6z (@z6z _)) := okF_of std (.cons ok_z8z .nil) ⟨rfl, rfl, by kernel_rfl, rfl, rfl, rfl⟩ (sm_z6z I_z6z) (cutsL (fun _ => rfl) (.cons lf_z6z_L2 (.cons lf_z6z_L9 (.cons lf_z6z_L7 .nil))) (by kernel_rfl)) Tryz.func89 (by kernel_rfl) (by kernel_rfl)
abbrev T_z38z : Type 1 := List G_Spot → {R : Type} → (List G_Spot → Option R) → Option R
structure C_z38z where
 N : Nat
 z6z : T_z6z
def z38z_ (g : C_z38z) (a1 : List G_Spot) {R : Type} (k0 : List G_Spot → Option R) : Option R :=
 (g.z6z a1 (a1.length : Int) (fun r2 => k0 r2))
noncomputable def I_z38z [Fuel] : C_z38z := ⟨NN, @z6z _⟩
noncomputable def z38z [Fuel] : T_z38z := @z38z_ I_z38z
def SS_z38z (g : T_z38z) : Spec A := fun args => match args with | [.arr 52 a1, .fn 40 []] => fun k => g a1 (fun z0 => k (.tup []) [.arr 52 z0, .fn 40 []]) | _ => fun _ => none
noncomputable def code_39 : Code := (Tryz.f39.body).getD .skip
noncomputable def E_z38z (g : C_z38z) : Env A := mkE [(89, SS_z6z g.z6z)] [] [] [] [] [] [] [] [(89, 0)] [0, 1]
theorem sm_z38z (g : C_z38z) : Same (SS_z38z (@z38z_ g)) (abody (E_z38z g) Tryz.f39 code_39 1 [0] [] g.N) := by intro args; unfold SS_z38z; split; exact .inr fun R k => (by kernel_rfl); exact .inl fun R k => rfl
theorem ok_z38z [Fuel] : Ok 39 (SS_z38z (@z38z _)) := okF_of std (.cons ok_z6z .nil) ⟨rfl, rfl, by kernel_rfl, rfl, rfl, rfl⟩ (sm_z38z I_z38z) (cuts0 (fun _ => rfl) (by kernel_rfl)) Tryz.func39 (by kernel_rfl) (by kernel_rfl)
abbrev T_z26z : Type 1 := List G_Spot → {R : Type} → (List G_Spot → Option R) → Option R
def z26z_L9 (g : Nat) : Nat → Int → Int → Int → Int → List G_Spot → {R : Type} → (Int → List G_Spot → Option R) → Option R
 | 0, _, _, _, _, _, _, _ => none
 | n + 1, v23, v24, v25, v26, v27, _, e0 => (bif (decide (v26 < ((v25 - v24).toNat : Int))) then (bif (decide (0 ≤ v26) && (decide (v26 < v25 - v24) && decide (v24 + v26 < (v27.length : Int)))) then (at_ v27 (v24 + v26) fun x32 => (bif (decide (0 ≤ (w64 (v26 - 1))) && (decide ((w64 (v26 - 1)) < v25 - v24) && decide (v24 + (w64 (v26 - 1)) < (v27.length : Int)))) then (at_ v27 (v24 + (w64 (v26 - 1))) fun x33 => (bif (!(eq_G_Spot x32 x33)) then (bif (decide (0 ≤ v26) && (decide (v26 < v25 - v24) && decide (v24 + v26 < (v27.length : Int)))) then (at_ v27 (v24 + v26) fun x34 => (inr v27 v23 (at_ v27 v23 fun x35 => z26z_L9 g n (w64 (v23 + 1)) v24 v25 (w64 (v26 + 1)) (set_ v27 v23 x34) e0))) else none) else z26z_L9 g n v23 v24 v25 (w64 (v26 + 1)) v27 e0)) else none)) else none) else e0 v23 v27)
def z26z_L4 (g : Nat) : Nat → Int → List G_Spot → {R : Type} → (List G_Spot → Option R) → (List G_Spot → Option R) → Option R
 | 0, _, _, _, _, _ => none
 | n + 1, v2, v3, _, e0, e1 => (bif (decide (v2 < (v3.length : Int))) then (inr v3 v2 (at_ v3 v2 fun x21 => (inr v3 (w64 (v2 - 1)) (at_ v3 (w64 (v2 - 1)) fun x22 => (bif (eq_G_Spot x21 x22) then (bif (decide (0 < v3.length) && (decide (0 ≤ v2) && decide (v2 ≤ (v3.length : Int)))) then (z26z_L9 g g v2 v2 (v3.length : Int) 1 v3 (fun e36 e37 => (bif (decide (0 < e37.length) && (decide (0 ≤ e36) && decide (e36 ≤ (e37.length : Int)))) then (bif (decide (0 ≤ e36) && (decide (e36 ≤ (e37.length : Int)) && decide (((e37.length : Int)).toNat ≤ e37.length))) then (bif (decide (0 ≤ e36) && decide (e36 ≤ ((e37.take (e36).toNat ++ (List.replicate ((e37.length : Int) - e36).toNat (⟨0, 0, [], []⟩ : G_Spot) ++ e37.drop ((e37.length : Int)).toNat)).length : Int))) then e0 ((e37.take (e36).toNat ++ (List.replicate ((e37.length : Int) - e36).toNat (⟨0, 0, [], []⟩ : G_Spot) ++ e37.drop ((e37.length : Int)).toNat)).take (e36 : Int).toNat) else none) else none) else none))) else none) else z26z_L4 g n (w64 (v2 + 1)) v3 e0 e1))))) else e1 v3)
def z26z_ (g : Nat) (a1 : List G_Spot) {R : Type} (k0 : List G_Spot → Option R) : Option R :=
 (bif (decide ((a1.length : Int) < 2)) then k0 a1 else (z26z_L4 g g 1 a1 (fun e38 => k0 e38) (fun e39 => k0 e39)))
noncomputable def z26z [Fuel] : T_z26z := @z26z_ NN
def SS_z26z (g : T_z26z) : Spec A := fun args => match args with | [.arr 52 a1] => fun k => g a1 (fun z0 => k (.arr 52 z0) [.undef]) | _ => fun _ => none
def sh_z26z_L9 : SSt := mkSh 61 6 [(0, .own 52 0), (3, .int .i64), (4, .vw 52 0), (5, .int .i64)] [(0, .row 52)]
def LP_z26z_L9 (g : Nat) (n : Nat) : LPT A := fun ps => match ps with | [.d (.int .i64 p1), .z p2, .z p3, .d (.int .i64 p4), .d (.sl 52 p5)] => fun K => z26z_L9 g n p1 p2 p3 p4 p5 (fun z0 z1 => K (.exit 2) (mkSt 61 6 [(0, .own 52 0), (3, .d (.int .i64 z0))] [(0, some (.row 52 z1))])) | _ => fun _ => none
def sh_z26z_L4 : SSt := mkSh 61 6 [(0, .own 52 0), (3, .int .i64)] [(0, .row 52)]
def LP_z26z_L4 (g : Nat) (n : Nat) : LPT A := fun ps => match ps with | [.d (.int .i64 p1), .d (.sl 52 p2)] => fun K => z26z_L4 g n p1 p2 (fun z0 => K .ret (mkSt 61 6 [(0, .own 52 0), (2, .own 52 5)] [(5, some (.row 52 z0))])) (fun z0 => K (.exit 0) (mkSt 61 6 [(0, .own 52 0)] [(0, some (.row 52 z0))])) | _ => fun _ => none
noncomputable def code_41 : Code := (Tryz.f41.body).getD .skip
noncomputable def E_z26z (g : Nat) : Env A := mkE [] [(28, [1, 2]), (56, [3, 4]), (59, [5])] [(9, ⟨[0, 3, 4, 5], [], [0], [], [], [], []⟩), (4, ⟨[0, 3], [], [0], [], [], [], []⟩)] [(9, ⟨[0, 3], [], [0], [], [], [], []⟩), (4, ⟨[0, 2], [], [0, 5], [], [], [], []⟩)] [(9, pieceOf sh_z26z_L9 (LP_z26z_L9 g g)), (4, pieceOf sh_z26z_L4 (LP_z26z_L4 g g))] [] [] [] [] []
theorem ct_z26z [Fuel] : NatTab (E_z26z NN).C := ct_of (P := Tryz.prog) (T := T) .nil (by kernel_rfl)
noncomputable def cb_z26z_L9 : Code := sub [1, 1, 0, 1, 0, 0, 1, 0, 0, 1, 0, 1, 0, 1, 0, 0] code_41
theorem s_z26z_L9 (g : Nat) (n : Nat) : StepOk (E_z26z g) g cb_z26z_L9 sh_z26z_L9 (LP_z26z_L9 g) n := by intro ps; unfold LP_z26z_L9; split; exact .inr fun R K => (by kernel_rfl); exact .inl fun R K => rfl
theorem lf_z26z_L9 [Fuel] : LoopFine (E_z26z NN) NN cb_z26z_L9 := fine_loop sh_z26z_L9 (LP_z26z_L9 NN) (by kernel_rfl) ct_z26z (cuts0 (fun _ => rfl) (by kernel_rfl)) (fun ps R K => by unfold LP_z26z_L9; split <;> (try unfold z26z_L9) <;> rfl) (s_z26z_L9 NN)
noncomputable def cb_z26z_L4 : Code := sub [1, 1, 0, 1, 0, 0] code_41
theorem s_z26z_L4 (g : Nat) (n : Nat) : StepOk (E_z26z g) g cb_z26z_L4 sh_z26z_L4 (LP_z26z_L4 g) n := by intro ps; unfold LP_z26z_L4; split; exact .inr fun R K => (by kernel_rfl); exact .inl fun R K => rfl
theorem lf_z26z_L4 [Fuel] : LoopFine (E_z26z NN) NN cb_z26z_L4 := fine_loop sh_z26z_L4 (LP_z26z_L4 NN) (by kernel_rfl) ct_z26z (cutsL (fun _ => rfl) (.cons lf_z26z_L9 .nil) (by kernel_rfl)) (fun ps R K => by unfold LP_z26z_L4; split <;> (try unfold z26z_L4) <;> rfl) (s_z26z_L4 NN)
theorem sm_z26z (g : Nat) : Same (SS_z26z (@z26z_ g)) (abody (E_z26z g) Tryz.f41 code_41 6 [0] [.arr 52] g) := by intro args; unfold SS_z26z; split; exact .inr fun R k => (by kernel_rfl); exact .inl fun R k => rfl
theorem ok_z26z [Fuel] : Ok 41 (SS_z26z (@z26z _)) := okF_of std .nil ⟨rfl, rfl, by kernel_rfl, rfl, rfl, rfl⟩ (sm_z26z NN) (cutsL (fun _ => rfl) (.cons lf_z26z_L9 (.cons lf_z26z_L4 .nil)) (by kernel_rfl)) Tryz.func41 (by kernel_rfl) (by kernel_rfl)
abbrev T_z50z : Type 1 := G_Stream → Int → {R : Type} → (List G_Spot → G_Stream → Option R) → Option R
structure C_z50z where
 N : Nat
 z68z : T_z68z
 z63z : T_z63z
 z74z : T_z74z
 Stream_Odd : T_Stream_Odd
 z84z : T_z84z
 z38z : T_z38z
 z26z : T_z26z
def z50z_L4 (g : C_z50z) : Nat → Int → Int → Int → G_Stream → List G_Spot → {R : Type} → (G_Stream → List G_Spot → Option R) → Option R
 | 0, _, _, _, _, _, _, _ => none
 | n + 1, v3, v4, v5, v6, v7, _, e0 => (bif (decide (v5 < v4)) then (g.z68z v6 [0, 1, 5, 20] (fun r24 r25 => (g.z68z r25 [7000000, 7100000, 7299999, 7300000, 14000000, 14010000, 14020000, 14020000, 1800000, 5000000] (fun r26 r27 => (g.z84z r27 (fun r28 r29 => (g.z74z r29 [[119, 49, 97, 119], [110, 49, 109, 109]] (fun r30 r31 => (g.z63z r31 80 (fun r32 r33 => (bif r32 then (g.Stream_Odd r33 0 100 (fun r34 r35 => (g.Stream_Odd r35 0 30000000000 (fun r36 r37 => (g.z74z r37 [[], [119, 49, 97, 119]] (fun r38 r39 => (bif (decide ((v7.length + [(⟨r34, r36, r28, r38⟩ : G_Spot)].length) * 48 ≤ roomBytes')) then z50z_L4 g n (w64 (v3 + r24)) v4 (w64 (v5 + 1)) r39 (v7 ++ [(⟨r34, r36, r28, r38⟩ : G_Spot)]) e0 else none))))))) else (bif (decide ((v7.length + [(⟨(w64 (v3 + r24)), r26, r28, r30⟩ : G_Spot)].length) * 48 ≤ roomBytes')) then z50z_L4 g n (w64 (v3 + r24)) v4 (w64 (v5 + 1)) r33 (v7 ++ [(⟨(w64 (v3 + r24)), r26, r28, r30⟩ : G_Spot)]) e0 else none)))))))))))) else e0 v6 v7)
def z50z_ (g : C_z50z) (a1 : G_Stream) (a2 : Int) {R : Type} (k0 : List G_Spot → G_Stream → Option R) : Option R :=
 (z50z_L4 g g.N 0 a2 0 a1 [] (fun e40 e41 => (g.z38z e41 (fun r42 => (g.z26z r42 (fun r43 => k0 r43 e40))))))
noncomputable def I_z50z [Fuel] : C_z50z := ⟨NN, @z68z _, @z63z _, @z74z _, @Stream_Odd _, @z84z _, @z38z _, @z26z _⟩
noncomputable def z50z [Fuel] : T_z50z := @z50z_ I_z50z
def SS_z50z (g : T_z50z) : Spec A := fun args => match args with | [.box [.d (.sl 3 a1), .d (.int .i64 a2)], .d (.int .i64 a3)] => fun k => g ⟨a1, a2⟩ a3 (fun z0 z1 => k (.arr 52 z0) [.box [.d (.sl 3 z1.f_L), .d (.int .i64 z1.f_at)], .undef]) | _ => fun _ => none
def sh_z50z_L4 : SSt := mkSh 47 10 [(0, .ptr 0 0), (5, .own 52 1), (6, .int .i64), (8, .int .i64), (9, .int .i64)] [(0, .box [.sl 3, .int .i64]), (1, .row 52)]
def LP_z50z_L4 (g : C_z50z) (n : Nat) : LPT A := fun ps => match ps with | [.d (.int .i64 p1), .d (.int .i64 p2), .d (.int .i64 p3), .d (.sl 3 p4), .d (.int .i64 p5), .d (.sl 52 p6)] => fun K => z50z_L4 g n p1 p2 p3 ⟨p4, p5⟩ p6 (fun z0 z1 => K (.exit 0) (mkSt 47 10 [(0, .ptr 0 0), (5, .own 52 1)] [(0, some (.box [.d (.sl 3 z0.f_L), .d (.int .i64 z0.f_at)])), (1, some (.row 52 z1))])) | _ => fun _ => none
noncomputable def code_6 : Code := (Tryz.f6.body).getD .skip
noncomputable def E_z50z (g : C_z50z) : Env A := mkE [(9, SS_z68z g.z68z), (34, SS_z63z g.z63z), (36, SS_z74z g.z74z), (37, SS_Stream_Odd g.Stream_Odd), (38, SS_z84z g.z84z), (39, SS_z38z g.z38z), (41, SS_z26z g.z26z)] [(7, [5]), (13, [2]), (18, [3]), (23, [4]), (33, [6]), (40, [7]), (41, [8]), (46, [9])] [(4, ⟨[0, 5, 6, 8, 9], [(5, 52, 1)], [0], [], [], [], []⟩)] [(4, ⟨[0, 5], [], [0, 1], [], [], [], []⟩)] [(4, pieceOf sh_z50z_L4 (LP_z50z_L4 g g.N))] [] [] [] [(39, 0), (41, 0)] [0]
theorem ct_z50z [Fuel] : NatTab (E_z50z I_z50z).C := ct_of (P := Tryz.prog) (T := T) (.cons ok_z68z (.cons ok_z63z (.cons ok_z74z (.cons ok_Stream_Odd (.cons ok_z84z (.cons ok_z38z (.cons ok_z26z .nil))))))) (by kernel_rfl)
noncomputable def cb_z50z_L4 : Code := sub [1, 1, 1, 0, 1, 0, 0] code_6
theorem s_z50z_L4 (g : C_z50z) (n : Nat) : StepOk (E_z50z g) g.N cb_z50z_L4 sh_z50z_L4 (LP_z50z_L4 g) n := by intro ps; unfold LP_z50z_L4; split; exact .inr fun R K => (by kernel_rfl); exact .inl fun R K => rfl
theorem lf_z50z_L4 [Fuel] : LoopFine (E_z50z I_z50z) NN cb_z50z_L4 := fine_loop sh_z50z_L4 (LP_z50z_L4 I_z50z) (by kernel_rfl) ct_z50z (cuts0 (fun _ => rfl) (by kernel_rfl)) (fun ps R K => by unfold LP_z50z_L4; split <;> (try unfold z50z_L4) <;> rfl) (s_z50z_L4 I_z50z)
theorem sm_z50z (g : C_z50z) : Same (SS_z50z (@z50z_ g)) (abody (E_z50z g) Tryz.f6 code_6 10 [0] [.arr 52] g.N) := by intro args; unfold SS_z50z; split; exact .inr fun R k => (by kernel_rfl); exact .inl fun R k => rfl
theorem ok_z50z [Fuel] : Ok 6 (SS_z50z (@z50z _)) := okF_of std (.cons ok_z68z (.cons ok_z63z (.cons ok_z74z (.cons ok_Stream_Odd (.cons ok_z84z (.cons ok_z38z (.cons ok_z26z .nil))))))) ⟨rfl, rfl, by kernel_rfl, rfl, rfl, rfl⟩ (sm_z50z I_z50z) (cutsL (fun _ => rfl) (.cons lf_z50z_L4 .nil) (by kernel_rfl)) Tryz.func6 (by kernel_rfl) (by kernel_rfl)
abbrev T_z62z : Type 1 := Int → Int → Int → {R : Type} → (Bool → Option R) → Option R
def z62z_ (g : Nat) (a1 a2 a3 : Int) {R : Type} (k0 : Bool → Option R) : Option R :=
 (bif (decide (a1 < a2)) then k0 true else k0 (decide (a1 > a3)))
noncomputable def z62z [Fuel] : T_z62z := @z62z_ NN
def SS_z62z (g : T_z62z) : Spec A := fun args => match args with | [.d (.int .i64 a1), .d (.int .i64 a2), .d (.int .i64 a3)] => fun k => g a1 a2 a3 (fun z0 => k (.d (.bool z0)) [.undef, .undef, .undef]) | _ => fun _ => none
noncomputable def code_86 : Code := (Tryz.f86.body).getD .skip
noncomputable def E_z62z (g : Nat) : Env A := mkE [] [] [] [] [] [] [] [] [] []
theorem sm_z62z (g : Nat) : Same (SS_z62z (@z62z_ g)) (abody (E_z62z g) Tryz.f86 code_86 0 [] [.asis] g) := by intro args; unfold SS_z62z; split; exact .inr fun R k => (by kernel_rfl); exact .inl fun R k => rfl
theorem ok_z62z [Fuel] : Ok 86 (SS_z62z (@z62z _)) := okF_of std .nil ⟨rfl, rfl, by kernel_rfl, rfl, rfl, rfl⟩ (sm_z62z NN) (cuts0 (fun _ => rfl) (by kernel_rfl)) Tryz.func86 (by kernel_rfl) (by kernel_rfl)
abbrev T_z73z : Type 1 := Int → {R : Type} → (Bool → Option R) → Option R
structure C_z73z where
 N : Nat
 z62z : T_z62z
def z73z_ (g : C_z73z) (a1 : Int) {R : Type} (k0 : Bool → Option R) : Option R :=
 (g.z62z a1 0 345686399999 (fun r2 => k0 (!r2)))
noncomputable def I_z73z [Fuel] : C_z73z := ⟨NN, @z62z _⟩
noncomputable def z73z [Fuel] : T_z73z := @z73z_ I_z73z
def SS_z73z (g : T_z73z) : Spec A := fun args => match args with | [.d (.int .i64 a1)] => fun k => g a1 (fun z0 => k (.d (.bool z0)) [.undef]) | _ => fun _ => none
noncomputable def code_85 : Code := (Tryz.f85.body).getD .skip
noncomputable def E_z73z (g : C_z73z) : Env A := mkE [(86, SS_z62z g.z62z)] [] [] [] [] [] [] [] [] []
theorem sm_z73z (g : C_z73z) : Same (SS_z73z (@z73z_ g)) (abody (E_z73z g) Tryz.f85 code_85 0 [] [.asis] g.N) := by intro args; unfold SS_z73z; split; exact .inr fun R k => (by kernel_rfl); exact .inl fun R k => rfl
theorem ok_z73z [Fuel] : Ok 85 (SS_z73z (@z73z _)) := okF_of std (.cons ok_z62z .nil) ⟨rfl, rfl, by kernel_rfl, rfl, rfl, rfl⟩ (sm_z73z I_z73z) (cuts0 (fun _ => rfl) (by kernel_rfl)) Tryz.func85 (by kernel_rfl) (by kernel_rfl)
abbrev T_z92z : Type 1 := Int → {R : Type} → (Bool → Option R) → Option R
def z92z_ (g : Nat) (a1 : Int) {R : Type} (k0 : Bool → Option R) : Option R :=
 (bif (decide (a1 ≥ 97)) then k0 (decide (a1 ≤ 122)) else k0 false)
noncomputable def z92z [Fuel] : T_z92z := @z92z_ NN
def SS_z92z (g : T_z92z) : Spec A := fun args => match args with | [.d (.int .u8 a1)] => fun k => g a1 (fun z0 => k (.d (.bool z0)) [.undef]) | _ => fun _ => none
noncomputable def code_209 : Code := (Tryz.f209.body).getD .skip
noncomputable def E_z92z (g : Nat) : Env A := mkE [] [] [] [] [] [] [] [] [] []
theorem sm_z92z (g : Nat) : Same (SS_z92z (@z92z_ g)) (abody (E_z92z g) Tryz.f209 code_209 0 [] [.asis] g) := by intro args; unfold SS_z92z; split; exact .inr fun R k => (by kernel_rfl); exact .inl fun R k => rfl
theorem ok_z92z [Fuel] : Ok 209 (SS_z92z (@z92z _)) := okF_of std .nil ⟨rfl, rfl, by kernel_rfl, rfl, rfl, rfl⟩ (sm_z92z NN) (cuts0 (fun _ => rfl) (by kernel_rfl)) Tryz.func209 (by kernel_rfl) (by kernel_rfl)
abbrev T_z90z : Type 1 := Int → {R : Type} → (Bool → Option R) → Option R
def z90z_ (g : Nat) (a1 : Int) {R : Type} (k0 : Bool → Option R) : Option R :=
 (bif (decide (a1 ≥ 48)) then k0 (decide (a1 ≤ 57)) else k0 false)
noncomputable def z90z [Fuel] : T_z90z := @z90z_ NN
def SS_z90z (g : T_z90z) : Spec A := fun args => match args with | [.d (.int .u8 a1)] => fun k => g a1 (fun z0 => k (.d (.bool z0)) [.undef]) | _ => fun _ => none
noncomputable def code_178 : Code := (Tryz.f178.body).getD .skip
noncomputable def E_z90z (g : Nat) : Env A := mkE [] [] [] [] [] [] [] [] [] []
theorem sm_z90z (g : Nat) : Same (SS_z90z (@z90z_ g)) (abody (E_z90z g) Tryz.f178 code_178 0 [] [.asis] g) := by intro args; unfold SS_z90z; split; exact .inr fun R k => (by kernel_rfl); exact .inl fun R k => rfl
theorem ok_z90z [Fuel] : Ok 178 (SS_z90z (@z90z _)) := okF_of std .nil ⟨rfl, rfl, by kernel_rfl, rfl, rfl, rfl⟩ (sm_z90z NN) (cuts0 (fun _ => rfl) (by kernel_rfl)) Tryz.func178 (by kernel_rfl) (by kernel_rfl)
end Go.Am
