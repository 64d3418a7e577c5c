/- The functions of the program as Lean functions, each shown to be what the code computes, part 2. No condition: lemmas for the claim. -/
import Derived.Test.YtnlblmnoiepeaaaGreatDoorF0
import Derived.Test.YtnlblmnoiepeaaaGreatDoorFSh
import Derived.Test.YtnlblmnoiepeaaaGreatDoorF1
set_option linter.unusedVariables false
set_option maxRecDepth 100000
namespace Go.Am
open Go Go.Proofs
abbrev T_z5z : Type 1 := List G_Spot → Int → Int → {R : Type} → (List G_Spot → Option R) → Option R
structure C_z5z where
 N : Nat
 z9z : T_z9z
def z5z_L4 (g : C_z5z) : Nat → Int → Int → Int → Int → List G_Spot → {R : Type} → (Int → Int → Int → List G_Spot → Option R) → Option R
 | 0, _, _, _, _, _, _, _ => none
 | n + 1, v31, v32, v33, v34, v35, _, e0 => (bif (decide (v34 > v31)) then (inr v35 v34 (at_ v35 v34 fun x43 => (inr v35 (w64 (v34 - 1)) (at_ v35 (w64 (v34 - 1)) fun x44 => (g.z9z x43 x44 (fun r45 => (bif (decide (r45 < 0)) then (inr v35 (w64 (v34 - 1)) (at_ v35 (w64 (v34 - 1)) fun x46 => (inr v35 v34 (at_ v35 v34 fun x47 => (inr v35 v34 (at_ v35 v34 fun x48 => (inr (set_ v35 v34 x46) (w64 (v34 - 1)) (at_ (set_ v35 v34 x46) (w64 (v34 - 1)) fun x49 => z5z_L4 g n v31 v32 v33 (w64 (v34 - 1)) (set_ (set_ v35 v34 x46) (w64 (v34 - 1)) x47) e0)))))))) else e0 v31 v32 v33 v35))))))) else e0 v31 v32 v33 v35)
def z5z_L1 (g : C_z5z) : Nat → Int → Int → Int → List G_Spot → {R : Type} → (List G_Spot → Option R) → Option R
 | 0, _, _, _, _, _, _ => none
 | n + 1, v4, v5, v6, v7, _, e0 => (bif (decide (v6 < v5)) then (z5z_L4 g g.N v4 v5 v6 v6 v7 (fun e50 e51 e52 e53 => z5z_L1 g n e50 e51 (w64 (e52 + 1)) e53 e0)) else e0 v7)
def z5z_ (g : C_z5z) (a1 : List G_Spot) (a2 a3 : Int) {R : Type} (k0 : List G_Spot → Option R) : Option R :=
 (z5z_L1 g g.N a2 a3 (w64 (a2 + 1)) a1 (fun e54 => k0 e54))
noncomputable def I_z5z [Fuel] : C_z5z := ⟨NN, @z9z _⟩
noncomputable def z5z [Fuel] : T_z5z := @z5z_ I_z5z
def SS_z5z (g : T_z5z) : Spec A := fun args => match args with | [.arr 42 a1, .d (.int .i64 a2), .d (.int .i64 a3), .fn 59 []] => fun k => g a1 a2 a3 (fun z0 => k (.tup []) [.arr 42 z0, .undef, .undef, .fn 59 []]) | _ => fun _ => none
def sh_z5z_L4 : SSt := mkSh 53 1 [(0, .own 42 0), (1, .int .i64), (2, .int .i64), (3, .fn 59 []), (8, .int .i64), (9, .int .i64)] [(0, .row 42)]
def LP_z5z_L4 (g : C_z5z) (n : Nat) : LPT A := fun ps => match ps with | [.d (.int .i64 p1), .d (.int .i64 p2), .d (.int .i64 p3), .d (.int .i64 p4), .d (.sl 42 p5)] => fun K => z5z_L4 g n p1 p2 p3 p4 p5 (fun z0 z1 z2 z3 => K (.exit 2) (mkSt 53 1 [(0, .own 42 0), (1, .d (.int .i64 z0)), (2, .d (.int .i64 z1)), (3, .fn 59 []), (8, .d (.int .i64 z2))] [(0, some (.row 42 z3))])) | _ => fun _ => none
def sh_z5z_L1 : SSt := mkSh 53 1 [(0, .own 42 0), (1, .int .i64), (2, .int .i64), (3, .fn 59 []), (8, .int .i64)] [(0, .row 42)]
def LP_z5z_L1 (g : C_z5z) (n : Nat) : LPT A := fun ps => match ps with | [.d (.int .i64 p1), .d (.int .i64 p2), .d (.int .i64 p3), .d (.sl 42 p4)] => fun K => z5z_L1 g n p1 p2 p3 p4 (fun z0 => K (.exit 0) (mkSt 53 1 [(0, .own 42 0), (3, .fn 59 [])] [(0, some (.row 42 z0))])) | _ => fun _ => none
noncomputable def code_128 : Code := (Tryz.f128.body).getD .skip
noncomputable def E_z5z (g : C_z5z) : Env A := mkE [(59, SS_z9z g.z9z)] [] [(4, ⟨[0, 1, 2, 3, 8, 9], [], [0], [], [], [], []⟩), (1, ⟨[0, 1, 2, 3, 8], [], [0], [], [], [], []⟩)] [(4, ⟨[0, 1, 2, 3, 8], [], [0], [], [], [], []⟩), (1, ⟨[0, 3], [], [0], [], [], [], []⟩)] [(4, pieceOf sh_z5z_L4 (LP_z5z_L4 g g.N)), (1, pieceOf sh_z5z_L1 (LP_z5z_L1 g g.N))] [] [] [] [] [0, 3]
theorem ct_z5z [Fuel] : NatTab (E_z5z I_z5z).C := ct_of (P := Tryz.prog) (T := T) (.cons ok_z9z .nil) (by kernel_rfl)
noncomputable def cb_z5z_L4 : Code := sub [1, 0, 0, 1, 0, 0, 1, 0, 0] code_128
theorem s_z5z_L4 (g : C_z5z) (n : Nat) : StepOk (E_z5z g) g.N cb_z5z_L4 sh_z5z_L4 (LP_z5z_L4 g) n := by intro ps; unfold LP_z5z_L4; split; exact .inr fun R K => (by kernel_rfl); exact .inl fun R K => rfl
theorem lf_z5z_L4 [Fuel] : LoopFine (E_z5z I_z5z) NN cb_z5z_L4 := fine_loop sh_z5z_L4 (LP_z5z_L4 I_z5z) (by kernel_rfl) ct_z5z (cuts0 (fun _ => rfl) (by kernel_rfl)) (fun ps R K => by unfold LP_z5z_L4; split <;> (try unfold z5z_L4) <;> rfl) (s_z5z_L4 I_z5z)
noncomputable def cb_z5z_L1 : Code := sub [1, 0, 0] code_128
theorem s_z5z_L1 (g : C_z5z) (n : Nat) : StepOk (E_z5z g) g.N cb_z5z_L1 sh_z5z_L1 (LP_z5z_L1 g) n := by intro ps; unfold LP_z5z_L1; split; exact .inr fun R K => (by kernel_rfl); exact .inl fun R K => rfl
theorem lf_z5z_L1 [Fuel] : LoopFine (E_z5z I_z5z) NN cb_z5z_L1 := fine_loop sh_z5z_L1 (LP_z5z_L1 I_z5z) (by kernel_rfl) ct_z5z (cutsL (fun _ => rfl) (.cons lf_z5z_L4 .nil) (by kernel_rfl)) (fun ps R K => by unfold LP_z5z_L1; split <;> (try unfold z5z_L1) <;> rfl) (s_z5z_L1 I_z5z)
theorem sm_z5z (g : C_z5z) : Same (SS_z5z (@z5z_ g)) (abody (E_z5z g) Tryz.f128 code_128 1 [0] [] g.N) := by intro args; unfold SS_z5z; split; exact .inr fun R k => (by kernel_rfl); exact .inl fun R k => rfl
theorem ok_z5z [Fuel] : Ok 128 (SS_z5z (@z5z _)) := okF_of std (.cons ok_z9z .nil) ⟨rfl, rfl, by kernel_rfl, rfl, rfl, rfl⟩ (sm_z5z I_z5z) (cutsL (fun _ => rfl) (.cons lf_z5z_L4 (.cons lf_z5z_L1 .nil)) (by kernel_rfl)) Tryz.func128 (by kernel_rfl) (by kernel_rfl)
abbrev T_z4z : Type 1 := List G_Spot → Int → {R : Type} → (List G_Spot → Option R) → Option R
structure C_z4z where
 N : Nat
 z5z : T_z5z
def z4z_L2 (g : C_z4z) : Nat → Int → Int → Int → Int → List G_Spot → {R : Type} → (Int → Int → Int → List G_Spot → Option R) → Option R
 | 0, _, _, _, _, _, _, _ => none
 | n + 1, v3, v4, v5, v6, v7, _, e0 => (bif (decide (v6 ≤ v3)) then (g.z5z v7 v5 v6 (fun r9 => z4z_L2 g n v3 v4 v6 (w64 (v6 + v4)) r9 e0)) else e0 v3 v4 v5 v7)
def z4z_L9 (g : C_z4z) : Nat → Int → Int → Int → Int → List G_Spot → {R : Type} → (Int → Int → Int → List G_Spot → Option R) → Option R
 | 0, _, _, _, _, _, _, _ => none
 | n + 1, v27, v28, v29, v30, v31, _, e0 => (bif (decide (v30 ≤ v27)) then none else e0 v27 v28 v29 v31)
def z4z_L7 (g : C_z4z) : Nat → Int → Int → List G_Spot → {R : Type} → (List G_Spot → Option R) → Option R
 | 0, _, _, _, _, _ => none
 | n + 1, v15, v16, v17, _, e0 => (bif (decide (v16 < v15)) then (z4z_L9 g g.N v15 v16 0 (w64 (2 * v16)) v17 (fun e32 e33 e34 e35 => (bif (decide ((w64 (e34 + e33)) < e32)) then none else z4z_L7 g n e32 (w64 (e33 * 2)) e35 e0))) else e0 v17)
def z4z_ (g : C_z4z) (a1 : List G_Spot) (a2 : Int) {R : Type} (k0 : List G_Spot → Option R) : Option R :=
 (z4z_L2 g g.N a2 20 0 20 a1 (fun e10 e11 e12 e13 => (g.z5z e13 e12 e10 (fun r14 => (z4z_L7 g g.N e10 e11 r14 (fun e36 => k0 e36))))))
noncomputable def I_z4z [Fuel] : C_z4z := ⟨NN, @z5z _⟩
noncomputable def z4z [Fuel] : T_z4z := @z4z_ I_z4z
def SS_z4z (g : T_z4z) : Spec A := fun args => match args with | [.arr 42 a1, .d (.int .i64 a2), .fn 59 []] => fun k => g a1 a2 (fun z0 => k (.tup []) [.arr 42 z0, .undef, .fn 59 []]) | _ => fun _ => none
def sh_z4z_L2 : SSt := mkSh 63 1 [(0, .own 42 0), (1, .int .i64), (2, .fn 59 []), (6, .int .i64), (7, .int .i64), (8, .int .i64)] [(0, .row 42)]
def LP_z4z_L2 (g : C_z4z) (n : Nat) : LPT A := fun ps => match ps with | [.d (.int .i64 p1), .d (.int .i64 p2), .d (.int .i64 p3), .d (.int .i64 p4), .d (.sl 42 p5)] => fun K => z4z_L2 g n p1 p2 p3 p4 p5 (fun z0 z1 z2 z3 => K (.exit 0) (mkSt 63 1 [(0, .own 42 0), (1, .d (.int .i64 z0)), (2, .fn 59 []), (6, .d (.int .i64 z1)), (7, .d (.int .i64 z2))] [(0, some (.row 42 z3))])) | _ => fun _ => none
def sh_z4z_L9 : SSt := mkSh 63 1 [(0, .own 42 0), (1, .int .i64), (2, .fn 59 []), (6, .int .i64), (7, .int .i64), (8, .int .i64)] [(0, .row 42)]
def LP_z4z_L9 (g : C_z4z) (n : Nat) : LPT A := fun ps => match ps with | [.d (.int .i64 p1), .d (.int .i64 p2), .d (.int .i64 p3), .d (.int .i64 p4), .d (.sl 42 p5)] => fun K => z4z_L9 g n p1 p2 p3 p4 p5 (fun z0 z1 z2 z3 => K (.exit 4) (mkSt 63 1 [(0, .own 42 0), (1, .d (.int .i64 z0)), (2, .fn 59 []), (6, .d (.int .i64 z1)), (7, .d (.int .i64 z2))] [(0, some (.row 42 z3))])) | _ => fun _ => none
def sh_z4z_L7 : SSt := mkSh 63 1 [(0, .own 42 0), (1, .int .i64), (2, .fn 59 []), (6, .int .i64)] [(0, .row 42)]
def LP_z4z_L7 (g : C_z4z) (n : Nat) : LPT A := fun ps => match ps with | [.d (.int .i64 p1), .d (.int .i64 p2), .d (.sl 42 p3)] => fun K => z4z_L7 g n p1 p2 p3 (fun z0 => K (.exit 2) (mkSt 63 1 [(0, .own 42 0), (2, .fn 59 [])] [(0, some (.row 42 z0))])) | _ => fun _ => none
noncomputable def code_79 : Code := (Tryz.f79.body).getD .skip
noncomputable def E_z4z (g : C_z4z) : Env A := mkE [(128, SS_z5z g.z5z)] [] [(2, ⟨[0, 1, 2, 6, 7, 8], [], [0], [], [], [], []⟩), (9, ⟨[0, 1, 2, 6, 7, 8], [], [0], [], [], [], []⟩), (7, ⟨[0, 1, 2, 6], [], [0], [], [], [], []⟩)] [(2, ⟨[0, 1, 2, 6, 7], [], [0], [], [], [], []⟩), (9, ⟨[0, 1, 2, 6, 7], [], [0], [], [], [], []⟩), (7, ⟨[0, 2], [], [0], [], [], [], []⟩)] [(2, pieceOf sh_z4z_L2 (LP_z4z_L2 g g.N)), (9, pieceOf sh_z4z_L9 (LP_z4z_L9 g g.N)), (7, pieceOf sh_z4z_L7 (LP_z4z_L7 g g.N))] [] [] [] [(128, 0)] [0, 2]
theorem ct_z4z [Fuel] : NatTab (E_z4z I_z4z).C := ct_of (P := Tryz.prog) (T := T) (.cons ok_z5z .nil) (by kernel_rfl)
noncomputable def cb_z4z_L2 : Code := sub [1, 1, 0, 0, 0] code_79
theorem s_z4z_L2 (g : C_z4z) (n : Nat) : StepOk (E_z4z g) g.N cb_z4z_L2 sh_z4z_L2 (LP_z4z_L2 g) n := by intro ps; unfold LP_z4z_L2; split; exact .inr fun R K => (by kernel_rfl); exact .inl fun R K => rfl
theorem lf_z4z_L2 [Fuel] : LoopFine (E_z4z I_z4z) NN cb_z4z_L2 := fine_loop sh_z4z_L2 (LP_z4z_L2 I_z4z) (by kernel_rfl) ct_z4z (cuts0 (fun _ => rfl) (by kernel_rfl)) (fun ps R K => by unfold LP_z4z_L2; split <;> (try unfold z4z_L2) <;> rfl) (s_z4z_L2 I_z4z)
noncomputable def cb_z4z_L9 : Code := sub [1, 1, 1, 1, 0, 0, 1, 0, 1, 0, 0, 0] code_79
theorem s_z4z_L9 (g : C_z4z) (n : Nat) : StepOk (E_z4z g) g.N cb_z4z_L9 sh_z4z_L9 (LP_z4z_L9 g) n := by intro ps; unfold LP_z4z_L9; split; exact .inr fun R K => (by kernel_rfl); exact .inl fun R K => rfl
theorem lf_z4z_L9 [Fuel] : LoopFine (E_z4z I_z4z) NN cb_z4z_L9 := fine_loop sh_z4z_L9 (LP_z4z_L9 I_z4z) (by kernel_rfl) ct_z4z (cuts0 (fun _ => rfl) (by kernel_rfl)) (fun ps R K => by unfold LP_z4z_L9; split <;> (try unfold z4z_L9) <;> rfl) (s_z4z_L9 I_z4z)
noncomputable def cb_z4z_L7 : Code := sub [1, 1, 1, 1, 0, 0] code_79
theorem s_z4z_L7 (g : C_z4z) (n : Nat) : StepOk (E_z4z g) g.N cb_z4z_L7 sh_z4z_L7 (LP_z4z_L7 g) n := by intro ps; unfold LP_z4z_L7; split; exact .inr fun R K => (by kernel_rfl); exact .inl fun R K => rfl
theorem lf_z4z_L7 [Fuel] : LoopFine (E_z4z I_z4z) NN cb_z4z_L7 := fine_loop sh_z4z_L7 (LP_z4z_L7 I_z4z) (by kernel_rfl) ct_z4z (cutsL (fun _ => rfl) (.cons lf_z4z_L9 .nil) (by kernel_rfl)) (fun ps R K => by unfold LP_z4z_L7; split <;> (try unfold z4z_L7) <;> rfl) (s_z4z_L7 I_z4z)
theorem sm_z4z (g : C_z4z) : Same (SS_z4z (@z4z_ g)) (abody (E_z4z g) Tryz.f79 code_79 1 [0] [] g.N) := by intro args; unfold SS_z4z; split; exact .inr fun R k => (by kernel_rfl); exact .inl fun R k => rfl
theorem ok_z4z [Fuel] : Ok 79 (SS_z4z (@z4z _)) := okF_of std (.cons ok_z5z .nil) ⟨rfl, rfl, by kernel_rfl, rfl, rfl, rfl⟩ (sm_z4z I_z4z) (cutsL (fun _ => rfl) (.cons lf_z4z_L2 (.cons lf_z4z_L9 (.cons lf_z4z_L7 .nil))) (by kernel_rfl)) Tryz.func79 (by kernel_rfl) (by kernel_rfl)
abbrev T_z33z : Type 1 := List G_Spot → {R : Type} → (List G_Spot → Option R) → Option R
structure C_z33z where
 N : Nat
 z4z : T_z4z
def z33z_ (g : C_z33z) (a1 : List G_Spot) {R : Type} (k0 : List G_Spot → Option R) : Option R :=
 (g.z4z a1 (a1.length : Int) (fun r2 => k0 r2))
noncomputable def I_z33z [Fuel] : C_z33z := ⟨NN, @z4z _⟩
noncomputable def z33z [Fuel] : T_z33z := @z33z_ I_z33z
def SS_z33z (g : T_z33z) : Spec A := fun args => match args with | [.arr 42 a1, .fn 59 []] => fun k => g a1 (fun z0 => k (.tup []) [.arr 42 z0, .fn 59 []]) | _ => fun _ => none
noncomputable def code_38 : Code := (Tryz.f38.body).getD .skip
noncomputable def E_z33z (g : C_z33z) : Env A := mkE [(79, SS_z4z g.z4z)] [] [] [] [] [] [] [] [(79, 0)] [0, 1]
theorem sm_z33z (g : C_z33z) : Same (SS_z33z (@z33z_ g)) (abody (E_z33z g) Tryz.f38 code_38 1 [0] [] g.N) := by intro args; unfold SS_z33z; split; exact .inr fun R k => (by kernel_rfl); exact .inl fun R k => rfl
theorem ok_z33z [Fuel] : Ok 38 (SS_z33z (@z33z _)) := okF_of std (.cons ok_z4z .nil) ⟨rfl, rfl, by kernel_rfl, rfl, rfl, rfl⟩ (sm_z33z I_z33z) (cuts0 (fun _ => rfl) (by kernel_rfl)) Tryz.func38 (by kernel_rfl) (by kernel_rfl)
abbrev T_z23z : Type 1 := List G_Spot → {R : Type} → (List G_Spot → Option R) → Option R
def z23z_L9 (g : Nat) : Nat → Int → Int → Int → Int → List G_Spot → {R : Type} → (Int → List G_Spot → Option R) → Option R
 | 0, _, _, _, _, _, _, _ => none
 | n + 1, v23, v24, v25, v26, v27, _, e0 => (bif (decide (v26 < ((v25 - v24).toNat : Int))) then (bif (decide (0 ≤ v26) && (decide (v26 < v25 - v24) && decide (v24 + v26 < (v27.length : Int)))) then (at_ v27 (v24 + v26) fun x32 => (bif (decide (0 ≤ (w64 (v26 - 1))) && (decide ((w64 (v26 - 1)) < v25 - v24) && decide (v24 + (w64 (v26 - 1)) < (v27.length : Int)))) then (at_ v27 (v24 + (w64 (v26 - 1))) fun x33 => (bif (!(eq_G_Spot x32 x33)) then (bif (decide (0 ≤ v26) && (decide (v26 < v25 - v24) && decide (v24 + v26 < (v27.length : Int)))) then (at_ v27 (v24 + v26) fun x34 => (inr v27 v23 (at_ v27 v23 fun x35 => z23z_L9 g n (w64 (v23 + 1)) v24 v25 (w64 (v26 + 1)) (set_ v27 v23 x34) e0))) else none) else z23z_L9 g n v23 v24 v25 (w64 (v26 + 1)) v27 e0)) else none)) else none) else e0 v23 v27)
def z23z_L4 (g : Nat) : Nat → Int → List G_Spot → {R : Type} → (List G_Spot → Option R) → (List G_Spot → Option R) → Option R
 | 0, _, _, _, _, _ => none
 | n + 1, v2, v3, _, e0, e1 => (bif (decide (v2 < (v3.length : Int))) then (inr v3 v2 (at_ v3 v2 fun x21 => (inr v3 (w64 (v2 - 1)) (at_ v3 (w64 (v2 - 1)) fun x22 => (bif (eq_G_Spot x21 x22) then (bif (decide (0 < v3.length) && (decide (0 ≤ v2) && decide (v2 ≤ (v3.length : Int)))) then (z23z_L9 g g v2 v2 (v3.length : Int) 1 v3 (fun e36 e37 => (bif (decide (0 < e37.length) && (decide (0 ≤ e36) && decide (e36 ≤ (e37.length : Int)))) then (bif (decide (0 ≤ e36) && (decide (e36 ≤ (e37.length : Int)) && decide (((e37.length : Int)).toNat ≤ e37.length))) then (bif (decide (0 ≤ e36) && decide (e36 ≤ ((e37.take (e36).toNat ++ (List.replicate ((e37.length : Int) - e36).toNat (⟨0, 0, [], []⟩ : G_Spot) ++ e37.drop ((e37.length : Int)).toNat)).length : Int))) then e0 ((e37.take (e36).toNat ++ (List.replicate ((e37.length : Int) - e36).toNat (⟨0, 0, [], []⟩ : G_Spot) ++ e37.drop ((e37.length : Int)).toNat)).take (e36 : Int).toNat) else none) else none) else none))) else none) else z23z_L4 g n (w64 (v2 + 1)) v3 e0 e1))))) else e1 v3)
def z23z_ (g : Nat) (a1 : List G_Spot) {R : Type} (k0 : List G_Spot → Option R) : Option R :=
 (bif (decide ((a1.length : Int) < 2)) then k0 a1 else (z23z_L4 g g 1 a1 (fun e38 => k0 e38) (fun e39 => k0 e39)))
noncomputable def z23z [Fuel] : T_z23z := @z23z_ NN
def SS_z23z (g : T_z23z) : Spec A := fun args => match args with | [.arr 42 a1] => fun k => g a1 (fun z0 => k (.arr 42 z0) [.undef]) | _ => fun _ => none
def sh_z23z_L9 : SSt := mkSh 61 6 [(0, .own 42 0), (3, .int .i64), (4, .vw 42 0), (5, .int .i64)] [(0, .row 42)]
def LP_z23z_L9 (g : Nat) (n : Nat) : LPT A := fun ps => match ps with | [.d (.int .i64 p1), .z p2, .z p3, .d (.int .i64 p4), .d (.sl 42 p5)] => fun K => z23z_L9 g n p1 p2 p3 p4 p5 (fun z0 z1 => K (.exit 2) (mkSt 61 6 [(0, .own 42 0), (3, .d (.int .i64 z0))] [(0, some (.row 42 z1))])) | _ => fun _ => none
def sh_z23z_L4 : SSt := mkSh 61 6 [(0, .own 42 0), (3, .int .i64)] [(0, .row 42)]
def LP_z23z_L4 (g : Nat) (n : Nat) : LPT A := fun ps => match ps with | [.d (.int .i64 p1), .d (.sl 42 p2)] => fun K => z23z_L4 g n p1 p2 (fun z0 => K .ret (mkSt 61 6 [(0, .own 42 0), (2, .own 42 5)] [(5, some (.row 42 z0))])) (fun z0 => K (.exit 0) (mkSt 61 6 [(0, .own 42 0)] [(0, some (.row 42 z0))])) | _ => fun _ => none
noncomputable def code_60 : Code := (Tryz.f60.body).getD .skip
noncomputable def E_z23z (g : Nat) : Env A := mkE [] [(28, [1, 2]), (56, [3, 4]), (59, [5])] [(9, ⟨[0, 3, 4, 5], [], [0], [], [], [], []⟩), (4, ⟨[0, 3], [], [0], [], [], [], []⟩)] [(9, ⟨[0, 3], [], [0], [], [], [], []⟩), (4, ⟨[0, 2], [], [0, 5], [], [], [], []⟩)] [(9, pieceOf sh_z23z_L9 (LP_z23z_L9 g g)), (4, pieceOf sh_z23z_L4 (LP_z23z_L4 g g))] [] [] [] [] []
theorem ct_z23z [Fuel] : NatTab (E_z23z NN).C := ct_of (P := Tryz.prog) (T := T) .nil (by kernel_rfl)
noncomputable def cb_z23z_L9 : Code := sub [1, 1, 0, 1, 0, 0, 1, 0, 0, 1, 0, 1, 0, 1, 0, 0] code_60
theorem s_z23z_L9 (g : Nat) (n : Nat) : StepOk (E_z23z g) g cb_z23z_L9 sh_z23z_L9 (LP_z23z_L9 g) n := by intro ps; unfold LP_z23z_L9; split; exact .inr fun R K => (by kernel_rfl); exact .inl fun R K => rfl
theorem lf_z23z_L9 [Fuel] : LoopFine (E_z23z NN) NN cb_z23z_L9 := fine_loop sh_z23z_L9 (LP_z23z_L9 NN) (by kernel_rfl) ct_z23z (cuts0 (fun _ => rfl) (by kernel_rfl)) (fun ps R K => by unfold LP_z23z_L9; split <;> (try unfold z23z_L9) <;> rfl) (s_z23z_L9 NN)
noncomputable def cb_z23z_L4 : Code := sub [1, 1, 0, 1, 0, 0] code_60
theorem s_z23z_L4 (g : Nat) (n : Nat) : StepOk (E_z23z g) g cb_z23z_L4 sh_z23z_L4 (LP_z23z_L4 g) n := by intro ps; unfold LP_z23z_L4; split; exact .inr fun R K => (by kernel_rfl); exact .inl fun R K => rfl
theorem lf_z23z_L4 [Fuel] : LoopFine (E_z23z NN) NN cb_z23z_L4 := fine_loop sh_z23z_L4 (LP_z23z_L4 NN) (by kernel_rfl) ct_z23z (cutsL (fun _ => rfl) (.cons lf_z23z_L9 .nil) (by kernel_rfl)) (fun ps R K => by unfold LP_z23z_L4; split <;> (try unfold z23z_L4) <;> rfl) (s_z23z_L4 NN)
theorem sm_z23z (g : Nat) : Same (SS_z23z (@z23z_ g)) (abody (E_z23z g) Tryz.f60 code_60 6 [0] [.arr 42] g) := by intro args; unfold SS_z23z; split; exact .inr fun R k => (by kernel_rfl); exact .inl fun R k => rfl
theorem ok_z23z [Fuel] : Ok 60 (SS_z23z (@z23z _)) := okF_of std .nil ⟨rfl, rfl, by kernel_rfl, rfl, rfl, rfl⟩ (sm_z23z NN) (cutsL (fun _ => rfl) (.cons lf_z23z_L9 (.cons lf_z23z_L4 .nil)) (by kernel_rfl)) Tryz.func60 (by kernel_rfl) (by kernel_rfl)
abbrev T_z48z : Type 1 := G_Stream → Int → {R : Type} → (List G_Spot → G_Stream → Option R) → Option R
structure C_z48z where
 N : Nat
 z57z : T_z57z
 z33z : T_z33z
 z60z : T_z60z
 z72z : T_z72z
 z42z : T_z42z
 Stream_Odd : T_Stream_Odd
 z23z : T_z23z
def z48z_L4 (g : C_z48z) : Nat → Int → Int → Int → G_Stream → List G_Spot → {R : Type} → (G_Stream → List G_Spot → Option R) → Option R
 | 0, _, _, _, _, _, _, _ => none
 | n + 1, v3, v4, v5, v6, v7, _, e0 => (bif (decide (v5 < v4)) then (g.z60z v6 [0, 1, 5, 20] (fun r24 r25 => (g.z60z r25 [7000000, 7100000, 7299999, 7300000, 14000000, 14010000, 14020000, 14020000, 1800000, 5000000] (fun r26 r27 => (g.z72z r27 (fun r28 r29 => (g.z42z r29 [[119, 49, 97, 119], [110, 49, 109, 109]] (fun r30 r31 => (g.z57z r31 80 (fun r32 r33 => (bif r32 then (g.Stream_Odd r33 0 100 (fun r34 r35 => (g.Stream_Odd r35 0 30000000000 (fun r36 r37 => (g.z42z r37 [[], [119, 49, 97, 119]] (fun r38 r39 => (bif (decide ((v7.length + [(⟨r34, r36, r28, r38⟩ : G_Spot)].length) * 48 ≤ roomBytes')) then z48z_L4 g n (w64 (v3 + r24)) v4 (w64 (v5 + 1)) r39 (v7 ++ [(⟨r34, r36, r28, r38⟩ : G_Spot)]) e0 else none))))))) else (bif (decide ((v7.length + [(⟨(w64 (v3 + r24)), r26, r28, r30⟩ : G_Spot)].length) * 48 ≤ roomBytes')) then z48z_L4 g n (w64 (v3 + r24)) v4 (w64 (v5 + 1)) r33 (v7 ++ [(⟨(w64 (v3 + r24)), r26, r28, r30⟩ : G_Spot)]) e0 else none)))))))))))) else e0 v6 v7)
def z48z_ (g : C_z48z) (a1 : G_Stream) (a2 : Int) {R : Type} (k0 : List G_Spot → G_Stream → Option R) : Option R :=
 (z48z_L4 g g.N 0 a2 0 a1 [] (fun e40 e41 => (g.z33z e41 (fun r42 => (g.z23z r42 (fun r43 => k0 r43 e40))))))
noncomputable def I_z48z [Fuel] : C_z48z := ⟨NN, @z57z _, @z33z _, @z60z _, @z72z _, @z42z _, @Stream_Odd _, @z23z _⟩
noncomputable def z48z [Fuel] : T_z48z := @z48z_ I_z48z
def SS_z48z (g : T_z48z) : Spec A := fun args => match args with | [.box [.d (.sl 3 a1), .d (.int .i64 a2)], .d (.int .i64 a3)] => fun k => g ⟨a1, a2⟩ a3 (fun z0 z1 => k (.arr 42 z0) [.box [.d (.sl 3 z1.f_L), .d (.int .i64 z1.f_at)], .undef]) | _ => fun _ => none
def sh_z48z_L4 : SSt := mkSh 47 10 [(0, .ptr 0 0), (5, .own 42 1), (6, .int .i64), (8, .int .i64), (9, .int .i64)] [(0, .box [.sl 3, .int .i64]), (1, .row 42)]
def LP_z48z_L4 (g : C_z48z) (n : Nat) : LPT A := fun ps => match ps with | [.d (.int .i64 p1), .d (.int .i64 p2), .d (.int .i64 p3), .d (.sl 3 p4), .d (.int .i64 p5), .d (.sl 42 p6)] => fun K => z48z_L4 g n p1 p2 p3 ⟨p4, p5⟩ p6 (fun z0 z1 => K (.exit 0) (mkSt 47 10 [(0, .ptr 0 0), (5, .own 42 1)] [(0, some (.box [.d (.sl 3 z0.f_L), .d (.int .i64 z0.f_at)])), (1, some (.row 42 z1))])) | _ => fun _ => none
noncomputable def code_26 : Code := (Tryz.f26.body).getD .skip
noncomputable def E_z48z (g : C_z48z) : Env A := mkE [(25, SS_z57z g.z57z), (38, SS_z33z g.z33z), (55, SS_z60z g.z60z), (56, SS_z72z g.z72z), (57, SS_z42z g.z42z), (58, SS_Stream_Odd g.Stream_Odd), (60, SS_z23z g.z23z)] [(7, [5]), (13, [2]), (18, [3]), (23, [4]), (33, [6]), (40, [7]), (41, [8]), (46, [9])] [(4, ⟨[0, 5, 6, 8, 9], [(5, 42, 1)], [0], [], [], [], []⟩)] [(4, ⟨[0, 5], [], [0, 1], [], [], [], []⟩)] [(4, pieceOf sh_z48z_L4 (LP_z48z_L4 g g.N))] [] [] [] [(38, 0), (60, 0)] [0]
theorem ct_z48z [Fuel] : NatTab (E_z48z I_z48z).C := ct_of (P := Tryz.prog) (T := T) (.cons ok_z57z (.cons ok_z33z (.cons ok_z60z (.cons ok_z72z (.cons ok_z42z (.cons ok_Stream_Odd (.cons ok_z23z .nil))))))) (by kernel_rfl)
noncomputable def cb_z48z_L4 : Code := sub [1, 1, 1, 0, 1, 0, 0] code_26
theorem s_z48z_L4 (g : C_z48z) (n : Nat) : StepOk (E_z48z g) g.N cb_z48z_L4 sh_z48z_L4 (LP_z48z_L4 g) n := by intro ps; unfold LP_z48z_L4; split; exact .inr fun R K => (by kernel_rfl); exact .inl fun R K => rfl
theorem lf_z48z_L4 [Fuel] : LoopFine (E_z48z I_z48z) NN cb_z48z_L4 := fine_loop sh_z48z_L4 (LP_z48z_L4 I_z48z) (by kernel_rfl) ct_z48z (cuts0 (fun _ => rfl) (by kernel_rfl)) (fun ps R K => by unfold LP_z48z_L4; split <;> (try unfold z48z_L4) <;> rfl) (s_z48z_L4 I_z48z)
theorem sm_z48z (g : C_z48z) : Same (SS_z48z (@z48z_ g)) (abody (E_z48z g) Tryz.f26 code_26 10 [0] [.arr 42] g.N) := by intro args; unfold SS_z48z; split; exact .inr fun R k => (by kernel_rfl); exact .inl fun R k => rfl
theorem ok_z48z [Fuel] : Ok 26 (SS_z48z (@z48z _)) := okF_of std (.cons ok_z57z (.cons ok_z33z (.cons ok_z60z (.cons ok_z72z (.cons ok_z42z (.cons ok_Stream_Odd (.cons ok_z23z .nil))))))) ⟨rfl, rfl, by kernel_rfl, rfl, rfl, rfl⟩ (sm_z48z I_z48z) (cutsL (fun _ => rfl) (.cons lf_z48z_L4 .nil) (by kernel_rfl)) Tryz.func26 (by kernel_rfl) (by kernel_rfl)
abbrev T_Q_in : Type 1 := Int → Int → Int → {R : Type} → (Bool → Option R) → Option R
def Q_in_ (g : Nat) (a1 a2 a3 : Int) {R : Type} (k0 : Bool → Option R) : Option R :=
 (bif (decide (a2 ≤ a1)) then k0 (decide (a1 ≤ a3)) else k0 false)
noncomputable def Q_in [Fuel] : T_Q_in := @Q_in_ NN
def SS_Q_in (g : T_Q_in) : Spec A := fun args => match args with | [.d (.int .i64 a1), .d (.int .i64 a2), .d (.int .i64 a3)] => fun k => g a1 a2 a3 (fun z0 => k (.d (.bool z0)) [.undef, .undef, .undef]) | _ => fun _ => none
noncomputable def code_62 : Code := (Tryz.f62.body).getD .skip
noncomputable def E_Q_in (g : Nat) : Env A := mkE [] [] [] [] [] [] [] [] [] []
theorem sm_Q_in (g : Nat) : Same (SS_Q_in (@Q_in_ g)) (abody (E_Q_in g) Tryz.f62 code_62 0 [] [.asis] g) := by intro args; unfold SS_Q_in; split; exact .inr fun R k => (by kernel_rfl); exact .inl fun R k => rfl
theorem ok_Q_in [Fuel] : Ok 62 (SS_Q_in (@Q_in _)) := okF_of std .nil ⟨rfl, rfl, by kernel_rfl, rfl, rfl, rfl⟩ (sm_Q_in NN) (cuts0 (fun _ => rfl) (by kernel_rfl)) Tryz.func62 (by kernel_rfl) (by kernel_rfl)
abbrev T_Q_Moment : Type 1 := Int → {R : Type} → (Bool → Option R) → Option R
structure C_Q_Moment where
 N : Nat
 Q_in : T_Q_in
def Q_Moment_ (g : C_Q_Moment) (a1 : Int) {R : Type} (k0 : Bool → Option R) : Option R :=
 (g.Q_in a1 0 345686399999 (fun r2 => k0 r2))
noncomputable def I_Q_Moment [Fuel] : C_Q_Moment := ⟨NN, @Q_in _⟩
noncomputable def Q_Moment [Fuel] : T_Q_Moment := @Q_Moment_ I_Q_Moment
def SS_Q_Moment (g : T_Q_Moment) : Spec A := fun args => match args with | [.d (.int .i64 a1)] => fun k => g a1 (fun z0 => k (.d (.bool z0)) [.undef]) | _ => fun _ => none
noncomputable def code_61 : Code := (Tryz.f61.body).getD .skip
noncomputable def E_Q_Moment (g : C_Q_Moment) : Env A := mkE [(62, SS_Q_in g.Q_in)] [] [] [] [] [] [] [] [] []
theorem sm_Q_Moment (g : C_Q_Moment) : Same (SS_Q_Moment (@Q_Moment_ g)) (abody (E_Q_Moment g) Tryz.f61 code_61 0 [] [.asis] g.N) := by intro args; unfold SS_Q_Moment; split; exact .inr fun R k => (by kernel_rfl); exact .inl fun R k => rfl
theorem ok_Q_Moment [Fuel] : Ok 61 (SS_Q_Moment (@Q_Moment _)) := okF_of std (.cons ok_Q_in .nil) ⟨rfl, rfl, by kernel_rfl, rfl, rfl, rfl⟩ (sm_Q_Moment I_Q_Moment) (cuts0 (fun _ => rfl) (by kernel_rfl)) Tryz.func61 (by kernel_rfl) (by kernel_rfl)
abbrev T_stringslite_Index : Type 1 := List UInt8 → List UInt8 → {R : Type} → (Int → Option R) → Option R
def stringslite_Index [Fuel] : T_stringslite_Index := @X_ix1
def SS_stringslite_Index (g : T_stringslite_Index) : Spec A := SSX_ix1 g
theorem ok_stringslite_Index [Fuel] : Ok 198 (SS_stringslite_Index (@stringslite_Index _)) := ⟨ssx_ix1_sound (ix1_sound (Any.stringslite_Index_one Tryz.lays219)), ssx_ix1_nat, enters_of (fn := Tryz.f198) Tryz.func198 (by kernel_rfl) (by kernel_rfl)⟩
abbrev T_z84z : Type 1 := List UInt8 → List UInt8 → {R : Type} → (List UInt8 → List UInt8 → Bool → Option R) → Option R
structure C_z84z where
 N : Nat
 stringslite_Index : T_stringslite_Index
def z84z_ (g : C_z84z) (a1 a2 : List UInt8) {R : Type} (k0 : List UInt8 → List UInt8 → Bool → Option R) : Option R :=
 (g.stringslite_Index a1 a2 (fun r3 => (bif (decide (r3 ≥ 0)) then (bif (decide (0 ≤ r3) && decide (r3 ≤ (a1.length : Int))) then (bif (decide (0 ≤ (w64 (r3 + (a2.length : Int)))) && decide ((w64 (r3 + (a2.length : Int))) ≤ (a1.length : Int))) then k0 (a1.take (r3 : Int).toNat) (a1.drop ((w64 (r3 + (a2.length : Int))) : Int).toNat) true else none) else none) else k0 a1 [] false)))
noncomputable def I_z84z [Fuel] : C_z84z := ⟨NN, @stringslite_Index _⟩
noncomputable def z84z [Fuel] : T_z84z := @z84z_ I_z84z
def SS_z84z (g : T_z84z) : Spec A := fun args => match args with | [.d (.str a1), .d (.str a2)] => fun k => g a1 a2 (fun z0 z1 z2 => k (.tup [.d (.str z0), .d (.str z1), .d (.bool z2)]) [.undef, .undef]) | _ => fun _ => none
noncomputable def code_165 : Code := (Tryz.f165.body).getD .skip
noncomputable def E_z84z (g : C_z84z) : Env A := mkE [(198, SS_stringslite_Index g.stringslite_Index)] [] [] [] [] [] [] [] [] []
theorem sm_z84z (g : C_z84z) : Same (SS_z84z (@z84z_ g)) (abody (E_z84z g) Tryz.f165 code_165 0 [] [.asis, .asis, .asis] g.N) := by intro args; unfold SS_z84z; split; exact .inr fun R k => (by kernel_rfl); exact .inl fun R k => rfl
theorem ok_z84z [Fuel] : Ok 165 (SS_z84z (@z84z _)) := okF_of std (.cons ok_stringslite_Index .nil) ⟨rfl, rfl, by kernel_rfl, rfl, rfl, rfl⟩ (sm_z84z I_z84z) (cuts0 (fun _ => rfl) (by kernel_rfl)) Tryz.func165 (by kernel_rfl) (by kernel_rfl)
abbrev T_z88z : Type 1 := List UInt8 → List UInt8 → {R : Type} → (List UInt8 → List UInt8 → Bool → Option R) → Option R
structure C_z88z where
 N : Nat
 z84z : T_z84z
def z88z_ (g : C_z88z) (a1 a2 : List UInt8) {R : Type} (k0 : List UInt8 → List UInt8 → Bool → Option R) : Option R :=
 (g.z84z a1 a2 (fun r3 r4 r5 => k0 r3 r4 r5))
noncomputable def I_z88z [Fuel] : C_z88z := ⟨NN, @z84z _⟩
noncomputable def z88z [Fuel] : T_z88z := @z88z_ I_z88z
def SS_z88z (g : T_z88z) : Spec A := fun args => match args with | [.d (.str a1), .d (.str a2)] => fun k => g a1 a2 (fun z0 z1 z2 => k (.tup [.d (.str z0), .d (.str z1), .d (.bool z2)]) [.undef, .undef]) | _ => fun _ => none
noncomputable def code_124 : Code := (Tryz.f124.body).getD .skip
noncomputable def E_z88z (g : C_z88z) : Env A := mkE [(165, SS_z84z g.z84z)] [] [] [] [] [] [] [] [] []
theorem sm_z88z (g : C_z88z) : Same (SS_z88z (@z88z_ g)) (abody (E_z88z g) Tryz.f124 code_124 0 [] [.asis, .asis, .asis] g.N) := by intro args; unfold SS_z88z; split; exact .inr fun R k => (by kernel_rfl); exact .inl fun R k => rfl
theorem ok_z88z [Fuel] : Ok 124 (SS_z88z (@z88z _)) := okF_of std (.cons ok_z84z .nil) ⟨rfl, rfl, by kernel_rfl, rfl, rfl, rfl⟩ (sm_z88z I_z88z) (cuts0 (fun _ => rfl) (by kernel_rfl)) Tryz.func124 (by kernel_rfl) (by kernel_rfl)
abbrev T_strings_IndexRune : Type 1 := List UInt8 → Int → {R : Type} → (Int → Option R) → Option R
def strings_IndexRune [Fuel] : T_strings_IndexRune := @X_ixr
def SS_strings_IndexRune (g : T_strings_IndexRune) : Spec A := SSX_ixr g
theorem ok_strings_IndexRune [Fuel] : Ok 224 (SS_strings_IndexRune (@strings_IndexRune _)) := ⟨ssx_ixr_sound (ixr_sound (fun s r w h0 h1 => Any.strings_IndexRune_ascii Tryz.lays152 s r w h0 h1)), ssx_ixr_nat, enters_of (fn := Tryz.f224) Tryz.func224 (by kernel_rfl) (by kernel_rfl)⟩
abbrev T_z69z : Type 1 := Int → {R : Type} → (Bool → Option R) → Option R
def z69z_ (g : Nat) (a1 : Int) {R : Type} (k0 : Bool → Option R) : Option R :=
 k0 (decide (a1 > 8))
noncomputable def z69z [Fuel] : T_z69z := @z69z_ NN
def SS_z69z (g : T_z69z) : Spec A := fun args => match args with | [.d (.int .i64 a1)] => fun k => g a1 (fun z0 => k (.d (.bool z0)) [.undef]) | _ => fun _ => none
noncomputable def code_225 : Code := (Tryz.f225.body).getD .skip
noncomputable def E_z69z (g : Nat) : Env A := mkE [] [] [] [] [] [] [] [] [] []
theorem sm_z69z (g : Nat) : Same (SS_z69z (@z69z_ g)) (abody (E_z69z g) Tryz.f225 code_225 0 [] [.asis] g) := by intro args; unfold SS_z69z; split; exact .inr fun R k => (by kernel_rfl); exact .inl fun R k => rfl
theorem ok_z69z [Fuel] : Ok 225 (SS_z69z (@z69z _)) := okF_of std .nil ⟨rfl, rfl, by kernel_rfl, rfl, rfl, rfl⟩ (sm_z69z NN) (cuts0 (fun _ => rfl) (by kernel_rfl)) Tryz.func225 (by kernel_rfl) (by kernel_rfl)
abbrev T_z71z : Type 1 := List UInt8 → {R : Type} → Option R
def z71z_ (g : Nat) (a1 : List UInt8) {R : Type}  : Option R :=
 none
noncomputable def z71z [Fuel] : T_z71z := @z71z_ NN
def SS_z71z (g : T_z71z) : Spec A := fun args => match args with | [.d (.str a1)] => fun k => g a1 | _ => fun _ => none
noncomputable def code_172 : Code := (Tryz.f172.body).getD .skip
noncomputable def E_z71z (g : Nat) : Env A := mkE [] [] [] [] [] [] [] [] [] []
noncomputable def cb_z71z_L2 : Code := sub [1, 0, 1, 0, 0] code_172
theorem lf_z71z_L2 [Fuel] : LoopFine (E_z71z NN) NN cb_z71z_L2 := no_loop (by kernel_rfl)
theorem sm_z71z (g : Nat) : Same (SS_z71z (@z71z_ g)) (abody (E_z71z g) Tryz.f172 code_172 0 [] [.asis, .asis] g) := by intro args; unfold SS_z71z; split; exact .inr fun R k => (by kernel_rfl); exact .inl fun R k => rfl
theorem ok_z71z [Fuel] : Ok 172 (SS_z71z (@z71z _)) := okF_of std .nil ⟨rfl, rfl, by kernel_rfl, rfl, rfl, rfl⟩ (sm_z71z NN) (cutsL (fun _ => rfl) (.cons lf_z71z_L2 .nil) (by kernel_rfl)) Tryz.func172 (by kernel_rfl) (by kernel_rfl)
end Go.Am
