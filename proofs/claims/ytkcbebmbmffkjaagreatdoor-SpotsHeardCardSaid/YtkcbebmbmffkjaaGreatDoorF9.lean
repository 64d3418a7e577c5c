/- The functions of the program as Lean functions, each shown to be what the code computes, part 9. No condition: lemmas for the claim. -/
import Derived.Test.YtkcbebmbmffkjaaGreatDoorF0
import Derived.Test.YtkcbebmbmffkjaaGreatDoorFSh
import Derived.Test.YtkcbebmbmffkjaaGreatDoorF2
import Derived.Test.YtkcbebmbmffkjaaGreatDoorF6
import Derived.Test.YtkcbebmbmffkjaaGreatDoorF8
set_option linter.unusedVariables false
set_option maxRecDepth 100000
namespace Go.Am
open Go Go.Proofs
abbrev T_z7z : Type 1 := List G_Pair → Int → Int → List (List UInt8 × Int) → {R : Type} → (List G_Pair → List (List UInt8 × Int) → Option R) → Option R
structure C_z7z where
 N : Nat
 z12z : T_z12z
def z7z_L4 (g : C_z7z) : Nat → Int → Int → Int → Int → List G_Pair → List (List UInt8 × Int) → {R : Type} → (Int → Int → Int → List G_Pair → List (List UInt8 × Int) → Option R) → (Int → Int → Int → List G_Pair → List (List UInt8 × Int) → Option R) → Option R
 | 0, _, _, _, _, _, _, _, _, _ => none
 | n + 1, v42, v43, v44, v45, v46, v47, _, e0, e1 => (bif (decide (v45 > v42)) then (inr v46 v45 (at_ v46 v45 fun x56 => (inr v46 (w64 (v45 - 1)) (at_ v46 (w64 (v45 - 1)) fun x57 => (g.z12z x56 x57 v47 (fun r58 r59 => (bif (decide (r58 < 0)) then (inr v46 (w64 (v45 - 1)) (at_ v46 (w64 (v45 - 1)) fun x60 => (inr v46 v45 (at_ v46 v45 fun x61 => (inr v46 v45 (at_ v46 v45 fun x62 => (inr (set_ v46 v45 x60) (w64 (v45 - 1)) (at_ (set_ v46 v45 x60) (w64 (v45 - 1)) fun x63 => z7z_L4 g n v42 v43 v44 (w64 (v45 - 1)) (set_ (set_ v46 v45 x60) (w64 (v45 - 1)) x61) r59 e0 e1)))))))) else e0 v42 v43 v44 v46 r59))))))) else e1 v42 v43 v44 v46 v47)
def z7z_L1 (g : C_z7z) : Nat → Int → Int → Int → List G_Pair → List (List UInt8 × Int) → {R : Type} → (List G_Pair → List (List UInt8 × Int) → Option R) → Option R
 | 0, _, _, _, _, _, _, _ => none
 | n + 1, v5, v6, v7, v8, v9, _, e0 => (bif (decide (v7 < v6)) then (z7z_L4 g g.N v5 v6 v7 v7 v8 v9 (fun e64 e65 e66 e67 e68 => z7z_L1 g n e64 e65 (w64 (e66 + 1)) e67 e68 e0) (fun e69 e70 e71 e72 e73 => z7z_L1 g n e69 e70 (w64 (e71 + 1)) e72 e73 e0)) else e0 v8 v9)
def z7z_ (g : C_z7z) (a1 : List G_Pair) (a2 a3 : Int) (a4 : List (List UInt8 × Int)) {R : Type} (k0 : List G_Pair → List (List UInt8 × Int) → Option R) : Option R :=
 (z7z_L1 g g.N a2 a3 (w64 (a2 + 1)) a1 a4 (fun e74 e75 => k0 e74 e75))
noncomputable def I_z7z [Fuel] : C_z7z := ⟨NN, @z12z _⟩
noncomputable def z7z [Fuel] : T_z7z := @z7z_ I_z7z
def SS_z7z (g : T_z7z) : Spec A := fun args => match args with | [.arr 65 a1, .d (.int .i64 a2), .d (.int .i64 a3), .fn 84 [.box [.mp 9 3 a4]]] => fun k => g a1 a2 a3 a4 (fun z0 z1 => k (.tup []) [.arr 65 z0, .undef, .undef, .fn 84 [.box [.mp 9 3 z1]]]) | _ => fun _ => none
def sh_z7z_L4 : SSt := mkSh 53 6 [(0, .own 65 0), (1, .int .i64), (2, .int .i64), (3, .fn 84 [.ptr 1 0]), (8, .int .i64), (9, .int .i64)] [(0, .row 65), (1, .box [.mp 4]), (4, .mp 9 3)]
def LP_z7z_L4 (g : C_z7z) (n : Nat) : LPT A := fun ps => match ps with | [.d (.int .i64 p1), .d (.int .i64 p2), .d (.int .i64 p3), .d (.int .i64 p4), .d (.sl 65 p5), .mp 9 3 p6] => fun K => z7z_L4 g n p1 p2 p3 p4 p5 p6 (fun z0 z1 z2 z3 z4 => K (.exit 2) (mkSt 53 6 [(0, .own 65 0), (1, .d (.int .i64 z0)), (2, .d (.int .i64 z1)), (3, .fn 84 [.ptr 1 0]), (8, .d (.int .i64 z2))] [(0, some (.row 65 z3)), (1, some (.box [.mp 5])), (4, some (.gone (2, 0))), (5, some (.mp 9 3 z4))])) (fun z0 z1 z2 z3 z4 => K (.exit 2) (mkSt 53 6 [(0, .own 65 0), (1, .d (.int .i64 z0)), (2, .d (.int .i64 z1)), (3, .fn 84 [.ptr 1 0]), (8, .d (.int .i64 z2))] [(0, some (.row 65 z3)), (1, some (.box [.mp 4])), (4, some (.mp 9 3 z4))])) | _ => fun _ => none
def sh_z7z_L1 : SSt := mkSh 53 6 [(0, .own 65 0), (1, .int .i64), (2, .int .i64), (3, .fn 84 [.ptr 1 0]), (8, .int .i64)] [(0, .row 65), (1, .box [.mp 3]), (3, .mp 9 3)]
def LP_z7z_L1 (g : C_z7z) (n : Nat) : LPT A := fun ps => match ps with | [.d (.int .i64 p1), .d (.int .i64 p2), .d (.int .i64 p3), .d (.sl 65 p4), .mp 9 3 p5] => fun K => z7z_L1 g n p1 p2 p3 p4 p5 (fun z0 z1 => K (.exit 0) (mkSt 53 6 [(0, .own 65 0), (3, .fn 84 [.ptr 1 0])] [(0, some (.row 65 z0)), (1, some (.box [.mp 3])), (3, some (.mp 9 3 z1))])) | _ => fun _ => none
noncomputable def code_169 : Code := (Tryz.f169.body).getD .skip
noncomputable def E_z7z (g : C_z7z) : Env A := mkE [(84, SS_z12z g.z12z)] [(32, [5])] [(4, ⟨[0, 1, 2, 3, 8, 9], [], [0, 1], [(1, 0, 0, 4)], [], [], []⟩), (1, ⟨[0, 1, 2, 3, 8], [], [0, 1], [(1, 0, 0, 3)], [], [], []⟩)] [(4, ⟨[0, 1, 2, 3, 8], [], [0, 1, 4, 5], [], [], [], []⟩), (1, ⟨[0, 3], [], [0, 1, 3], [], [], [], []⟩)] [(4, pieceOf sh_z7z_L4 (LP_z7z_L4 g g.N)), (1, pieceOf sh_z7z_L1 (LP_z7z_L1 g g.N))] [] [] [] [] [0, 3]
theorem ct_z7z [Fuel] : NatTab (E_z7z I_z7z).C := ct_of (P := Tryz.prog) (T := T) (.cons ok_z12z .nil) (by kernel_rfl)
noncomputable def cb_z7z_L4 : Code := sub [1, 0, 0, 1, 0, 0, 1, 0, 0] code_169
theorem s_z7z_L4 (g : C_z7z) (n : Nat) : StepOk (E_z7z g) g.N cb_z7z_L4 sh_z7z_L4 (LP_z7z_L4 g) n := by intro ps; unfold LP_z7z_L4; split; exact .inr fun R K => (by kernel_rfl); exact .inl fun R K => rfl
theorem lf_z7z_L4 [Fuel] : LoopFine (E_z7z I_z7z) NN cb_z7z_L4 := fine_loop sh_z7z_L4 (LP_z7z_L4 I_z7z) (by kernel_rfl) ct_z7z (cuts0 (fun _ => rfl) (by kernel_rfl)) (fun ps R K => by unfold LP_z7z_L4; split <;> (try unfold z7z_L4) <;> rfl) (s_z7z_L4 I_z7z)
noncomputable def cb_z7z_L1 : Code := sub [1, 0, 0] code_169
theorem s_z7z_L1 (g : C_z7z) (n : Nat) : StepOk (E_z7z g) g.N cb_z7z_L1 sh_z7z_L1 (LP_z7z_L1 g) n := by intro ps; unfold LP_z7z_L1; split; exact .inr fun R K => (by kernel_rfl); exact .inl fun R K => rfl
theorem lf_z7z_L1 [Fuel] : LoopFine (E_z7z I_z7z) NN cb_z7z_L1 := fine_loop sh_z7z_L1 (LP_z7z_L1 I_z7z) (by kernel_rfl) ct_z7z (cutsL (fun _ => rfl) (.cons lf_z7z_L4 .nil) (by kernel_rfl)) (fun ps R K => by unfold LP_z7z_L1; split <;> (try unfold z7z_L1) <;> rfl) (s_z7z_L1 I_z7z)
theorem sm_z7z (g : C_z7z) : Same (SS_z7z (@z7z_ g)) (abody (E_z7z g) Tryz.f169 code_169 6 [0, 1, 2] [] g.N) := by intro args; unfold SS_z7z; split; exact .inr fun R k => (by kernel_rfl); exact .inl fun R k => rfl
theorem ok_z7z [Fuel] : Ok 169 (SS_z7z (@z7z _)) := okF_of std (.cons ok_z12z .nil) ⟨rfl, rfl, by kernel_rfl, rfl, rfl, rfl⟩ (sm_z7z I_z7z) (cutsL (fun _ => rfl) (.cons lf_z7z_L4 (.cons lf_z7z_L1 .nil)) (by kernel_rfl)) Tryz.func169 (by kernel_rfl) (by kernel_rfl)
abbrev T_z4z : Type 1 := List G_Pair → Int → List (List UInt8 × Int) → {R : Type} → (List G_Pair → List (List UInt8 × Int) → Option R) → Option R
structure C_z4z where
 N : Nat
 z7z : T_z7z
def z4z_L2 (g : C_z4z) : Nat → Int → Int → Int → Int → List G_Pair → List (List UInt8 × Int) → {R : Type} → (Int → Int → Int → List G_Pair → List (List UInt8 × Int) → Option R) → Option R
 | 0, _, _, _, _, _, _, _, _ => none
 | n + 1, v4, v5, v6, v7, v8, v9, _, e0 => (bif (decide (v7 ≤ v4)) then (g.z7z v8 v6 v7 v9 (fun r12 r13 => z4z_L2 g n v4 v5 v7 (w64 (v7 + v5)) r12 r13 e0)) else e0 v4 v5 v6 v8 v9)
def z4z_L9 (g : C_z4z) : Nat → Int → Int → Int → Int → List G_Pair → List (List UInt8 × Int) → {R : Type} → (Int → Int → Int → List G_Pair → List (List UInt8 × Int) → Option R) → Option R
 | 0, _, _, _, _, _, _, _, _ => none
 | n + 1, v36, v37, v38, v39, v40, v41, _, e0 => (bif (decide (v39 ≤ v36)) then none else e0 v36 v37 v38 v40 v41)
def z4z_L7 (g : C_z4z) : Nat → Int → Int → List G_Pair → List (List UInt8 × Int) → {R : Type} → (List G_Pair → List (List UInt8 × Int) → Option R) → Option R
 | 0, _, _, _, _, _, _ => none
 | n + 1, v21, v22, v23, v24, _, e0 => (bif (decide (v22 < v21)) then (z4z_L9 g g.N v21 v22 0 (w64 (2 * v22)) v23 v24 (fun e42 e43 e44 e45 e46 => (bif (decide ((w64 (e44 + e43)) < e42)) then none else z4z_L7 g n e42 (w64 (e43 * 2)) e45 e46 e0))) else e0 v23 v24)
def z4z_ (g : C_z4z) (a1 : List G_Pair) (a2 : Int) (a3 : List (List UInt8 × Int)) {R : Type} (k0 : List G_Pair → List (List UInt8 × Int) → Option R) : Option R :=
 (z4z_L2 g g.N a2 20 0 20 a1 a3 (fun e14 e15 e16 e17 e18 => (g.z7z e17 e16 e14 e18 (fun r19 r20 => (z4z_L7 g g.N e14 e15 r19 r20 (fun e47 e48 => k0 e47 e48))))))
noncomputable def I_z4z [Fuel] : C_z4z := ⟨NN, @z7z _⟩
noncomputable def z4z [Fuel] : T_z4z := @z4z_ I_z4z
def SS_z4z (g : T_z4z) : Spec A := fun args => match args with | [.arr 65 a1, .d (.int .i64 a2), .fn 84 [.box [.mp 9 3 a3]]] => fun k => g a1 a2 a3 (fun z0 z1 => k (.tup []) [.arr 65 z0, .undef, .fn 84 [.box [.mp 9 3 z1]]]) | _ => fun _ => none
def sh_z4z_L2 : SSt := mkSh 63 8 [(0, .own 65 0), (1, .int .i64), (2, .fn 84 [.ptr 1 0]), (6, .int .i64), (7, .int .i64), (8, .int .i64)] [(0, .row 65), (1, .box [.mp 3]), (3, .mp 9 3)]
def LP_z4z_L2 (g : C_z4z) (n : Nat) : LPT A := fun ps => match ps with | [.d (.int .i64 p1), .d (.int .i64 p2), .d (.int .i64 p3), .d (.int .i64 p4), .d (.sl 65 p5), .mp 9 3 p6] => fun K => z4z_L2 g n p1 p2 p3 p4 p5 p6 (fun z0 z1 z2 z3 z4 => K (.exit 0) (mkSt 63 8 [(0, .own 65 0), (1, .d (.int .i64 z0)), (2, .fn 84 [.ptr 1 0]), (6, .d (.int .i64 z1)), (7, .d (.int .i64 z2))] [(0, some (.row 65 z3)), (1, some (.box [.mp 3])), (3, some (.mp 9 3 z4))])) | _ => fun _ => none
def sh_z4z_L9 : SSt := mkSh 63 8 [(0, .own 65 0), (1, .int .i64), (2, .fn 84 [.ptr 1 0]), (6, .int .i64), (7, .int .i64), (8, .int .i64)] [(0, .row 65), (1, .box [.mp 7]), (7, .mp 9 3)]
def LP_z4z_L9 (g : C_z4z) (n : Nat) : LPT A := fun ps => match ps with | [.d (.int .i64 p1), .d (.int .i64 p2), .d (.int .i64 p3), .d (.int .i64 p4), .d (.sl 65 p5), .mp 9 3 p6] => fun K => z4z_L9 g n p1 p2 p3 p4 p5 p6 (fun z0 z1 z2 z3 z4 => K (.exit 4) (mkSt 63 8 [(0, .own 65 0), (1, .d (.int .i64 z0)), (2, .fn 84 [.ptr 1 0]), (6, .d (.int .i64 z1)), (7, .d (.int .i64 z2))] [(0, some (.row 65 z3)), (1, some (.box [.mp 7])), (7, some (.mp 9 3 z4))])) | _ => fun _ => none
def sh_z4z_L7 : SSt := mkSh 63 8 [(0, .own 65 0), (1, .int .i64), (2, .fn 84 [.ptr 1 0]), (6, .int .i64)] [(0, .row 65), (1, .box [.mp 6]), (6, .mp 9 3)]
def LP_z4z_L7 (g : C_z4z) (n : Nat) : LPT A := fun ps => match ps with | [.d (.int .i64 p1), .d (.int .i64 p2), .d (.sl 65 p3), .mp 9 3 p4] => fun K => z4z_L7 g n p1 p2 p3 p4 (fun z0 z1 => K (.exit 2) (mkSt 63 8 [(0, .own 65 0), (2, .fn 84 [.ptr 1 0])] [(0, some (.row 65 z0)), (1, some (.box [.mp 6])), (6, some (.mp 9 3 z1))])) | _ => fun _ => none
noncomputable def code_127 : Code := (Tryz.f127.body).getD .skip
noncomputable def E_z4z (g : C_z4z) : Env A := mkE [(169, SS_z7z g.z7z)] [(18, [4]), (27, [5])] [(2, ⟨[0, 1, 2, 6, 7, 8], [], [0, 1], [(1, 0, 0, 3)], [], [], []⟩), (9, ⟨[0, 1, 2, 6, 7, 8], [], [0, 1], [(1, 0, 0, 7)], [], [], []⟩), (7, ⟨[0, 1, 2, 6], [], [0, 1], [(1, 0, 0, 6)], [], [], []⟩)] [(2, ⟨[0, 1, 2, 6, 7], [], [0, 1, 3], [], [], [], []⟩), (9, ⟨[0, 1, 2, 6, 7], [], [0, 1, 7], [], [], [], []⟩), (7, ⟨[0, 2], [], [0, 1, 6], [], [], [], []⟩)] [(2, pieceOf sh_z4z_L2 (LP_z4z_L2 g g.N)), (9, pieceOf sh_z4z_L9 (LP_z4z_L9 g g.N)), (7, pieceOf sh_z4z_L7 (LP_z4z_L7 g g.N))] [] [] [] [(169, 0)] [0, 2]
theorem ct_z4z [Fuel] : NatTab (E_z4z I_z4z).C := ct_of (P := Tryz.prog) (T := T) (.cons ok_z7z .nil) (by kernel_rfl)
noncomputable def cb_z4z_L2 : Code := sub [1, 1, 0, 0, 0] code_127
theorem s_z4z_L2 (g : C_z4z) (n : Nat) : StepOk (E_z4z g) g.N cb_z4z_L2 sh_z4z_L2 (LP_z4z_L2 g) n := by intro ps; unfold LP_z4z_L2; split; exact .inr fun R K => (by kernel_rfl); exact .inl fun R K => rfl
theorem lf_z4z_L2 [Fuel] : LoopFine (E_z4z I_z4z) NN cb_z4z_L2 := fine_loop sh_z4z_L2 (LP_z4z_L2 I_z4z) (by kernel_rfl) ct_z4z (cuts0 (fun _ => rfl) (by kernel_rfl)) (fun ps R K => by unfold LP_z4z_L2; split <;> (try unfold z4z_L2) <;> rfl) (s_z4z_L2 I_z4z)
noncomputable def cb_z4z_L9 : Code := sub [1, 1, 1, 1, 0, 0, 1, 0, 1, 0, 0, 0] code_127
theorem s_z4z_L9 (g : C_z4z) (n : Nat) : StepOk (E_z4z g) g.N cb_z4z_L9 sh_z4z_L9 (LP_z4z_L9 g) n := by intro ps; unfold LP_z4z_L9; split; exact .inr fun R K => (by kernel_rfl); exact .inl fun R K => rfl
theorem lf_z4z_L9 [Fuel] : LoopFine (E_z4z I_z4z) NN cb_z4z_L9 := fine_loop sh_z4z_L9 (LP_z4z_L9 I_z4z) (by kernel_rfl) ct_z4z (cuts0 (fun _ => rfl) (by kernel_rfl)) (fun ps R K => by unfold LP_z4z_L9; split <;> (try unfold z4z_L9) <;> rfl) (s_z4z_L9 I_z4z)
noncomputable def cb_z4z_L7 : Code := sub [1, 1, 1, 1, 0, 0] code_127
theorem s_z4z_L7 (g : C_z4z) (n : Nat) : StepOk (E_z4z g) g.N cb_z4z_L7 sh_z4z_L7 (LP_z4z_L7 g) n := by intro ps; unfold LP_z4z_L7; split; exact .inr fun R K => (by kernel_rfl); exact .inl fun R K => rfl
theorem lf_z4z_L7 [Fuel] : LoopFine (E_z4z I_z4z) NN cb_z4z_L7 := fine_loop sh_z4z_L7 (LP_z4z_L7 I_z4z) (by kernel_rfl) ct_z4z (cutsL (fun _ => rfl) (.cons lf_z4z_L9 .nil) (by kernel_rfl)) (fun ps R K => by unfold LP_z4z_L7; split <;> (try unfold z4z_L7) <;> rfl) (s_z4z_L7 I_z4z)
theorem sm_z4z (g : C_z4z) : Same (SS_z4z (@z4z_ g)) (abody (E_z4z g) Tryz.f127 code_127 8 [0, 1, 2] [] g.N) := by intro args; unfold SS_z4z; split; exact .inr fun R k => (by kernel_rfl); exact .inl fun R k => rfl
theorem ok_z4z [Fuel] : Ok 127 (SS_z4z (@z4z _)) := okF_of std (.cons ok_z7z .nil) ⟨rfl, rfl, by kernel_rfl, rfl, rfl, rfl⟩ (sm_z4z I_z4z) (cutsL (fun _ => rfl) (.cons lf_z4z_L2 (.cons lf_z4z_L9 (.cons lf_z4z_L7 .nil))) (by kernel_rfl)) Tryz.func127 (by kernel_rfl) (by kernel_rfl)
abbrev T_z36z : Type 1 := List G_Pair → List (List UInt8 × Int) → {R : Type} → (List G_Pair → List (List UInt8 × Int) → Option R) → Option R
structure C_z36z where
 N : Nat
 z4z : T_z4z
def z36z_ (g : C_z36z) (a1 : List G_Pair) (a2 : List (List UInt8 × Int)) {R : Type} (k0 : List G_Pair → List (List UInt8 × Int) → Option R) : Option R :=
 (g.z4z a1 (a1.length : Int) a2 (fun r3 r4 => k0 r3 r4))
noncomputable def I_z36z [Fuel] : C_z36z := ⟨NN, @z4z _⟩
noncomputable def z36z [Fuel] : T_z36z := @z36z_ I_z36z
def SS_z36z (g : T_z36z) : Spec A := fun args => match args with | [.arr 65 a1, .fn 84 [.box [.mp 9 3 a2]]] => fun k => g a1 a2 (fun z0 z1 => k (.tup []) [.arr 65 z0, .fn 84 [.box [.mp 9 3 z1]]]) | _ => fun _ => none
noncomputable def code_83 : Code := (Tryz.f83.body).getD .skip
noncomputable def E_z36z (g : C_z36z) : Env A := mkE [(127, SS_z4z g.z4z)] [(8, [3])] [] [] [] [] [] [] [(127, 0)] [0, 1]
theorem sm_z36z (g : C_z36z) : Same (SS_z36z (@z36z_ g)) (abody (E_z36z g) Tryz.f83 code_83 4 [0, 1, 2] [] g.N) := by intro args; unfold SS_z36z; split; exact .inr fun R k => (by kernel_rfl); exact .inl fun R k => rfl
theorem ok_z36z [Fuel] : Ok 83 (SS_z36z (@z36z _)) := okF_of std (.cons ok_z4z .nil) ⟨rfl, rfl, by kernel_rfl, rfl, rfl, rfl⟩ (sm_z36z I_z36z) (cuts0 (fun _ => rfl) (by kernel_rfl)) Tryz.func83 (by kernel_rfl) (by kernel_rfl)
abbrev T_z9z : Type 1 := List G_Band → List G_Spot → Int → Int → {R : Type} → (List G_Pair → Option R) → Option R
structure C_z9z where
 N : Nat
 z0z : T_z0z
 Q_BandAt : T_Q_BandAt
 strconv_Itoa : T_strconv_Itoa
 z36z : T_z36z
def z9z_L3 (g : C_z9z) : Nat → List G_Band → Int → Int → List (List UInt8 × Int) → List G_Spot → {R : Type} → (List G_Band → List (List UInt8 × Int) → Option R) → Option R
 | 0, _, _, _, _, _, _, _ => none
 | n + 1, v6, v7, v8, v9, v10, _, e0 => (bif (decide (v8 < v7)) then (inr v10 v8 (at_ v10 v8 fun x13 => (g.Q_BandAt v6 x13.f_Hertz (fun r14 => z9z_L3 g n v6 v7 (w64 (v8 + 1)) (mset_string_int r14 (w64 (((mget_string_int r14 v9).getD 0) + 1)) v9) v10 e0)))) else e0 v6 v9)
def z9z_L9 (g : C_z9z) : Nat → List G_Band → Int → Int → List (List UInt8 × Int) → List G_Pair → {R : Type} → (List (List UInt8 × Int) → List G_Pair → Option R) → Option R
 | 0, _, _, _, _, _, _, _ => none
 | n + 1, v17, v18, v19, v20, v21, _, e0 => (bif (decide (v19 < v18)) then (get_ v17 v19 fun x24 => (g.strconv_Itoa ((mget_string_int x24.f_Key v20).getD 0) (fun r25 => (bif (decide ((v21.length + [(⟨x24.f_Key, r25⟩ : G_Pair)].length) * 32 ≤ roomBytes')) then z9z_L9 g n v17 v18 (w64 (v19 + 1)) v20 (v21 ++ [(⟨x24.f_Key, r25⟩ : G_Pair)]) e0 else none)))) else e0 v20 v21)
def z9z_ (g : C_z9z) (a1 : List G_Band) (a2 : List G_Spot) (a3 a4 : Int) {R : Type} (k0 : List G_Pair → Option R) : Option R :=
 (g.z0z a1 a2 a3 a4 (fun r5 => (z9z_L3 g g.N a1 (r5.length : Int) 0 [] r5 (fun e15 e16 => (z9z_L9 g g.N e15 (e15.length : Int) 0 e16 [] (fun e26 e27 => (g.z36z e27 e26 (fun r28 r29 => k0 r28))))))))
noncomputable def I_z9z [Fuel] : C_z9z := ⟨NN, @z0z _, @Q_BandAt _, @strconv_Itoa _, @z36z _⟩
noncomputable def z9z [Fuel] : T_z9z := @z9z_ I_z9z
def SS_z9z (g : T_z9z) : Spec A := fun args => match args with | [.d (.sl 69 a1), .d (.sl 52 a2), .d (.int .i64 a3), .d (.int .i64 a4)] => fun k => g a1 a2 a3 a4 (fun z0 => k (.arr 65 z0) [.undef, .undef, .undef, .undef]) | _ => fun _ => none
def sh_z9z_L3 : SSt := mkSh 56 9 [(0, .sl 69), (9, .ptr 1 0), (20, .own 52 2), (21, .int .i64), (22, .int .i64)] [(0, .mp 9 3), (1, .box [.mp 0]), (2, .row 52)]
def LP_z9z_L3 (g : C_z9z) (n : Nat) : LPT A := fun ps => match ps with | [.d (.sl 69 p1), .d (.int .i64 p2), .d (.int .i64 p3), .mp 9 3 p4, .d (.sl 52 p5)] => fun K => z9z_L3 g n p1 p2 p3 p4 p5 (fun z0 z1 => K (.exit 0) (mkSt 56 9 [(0, .d (.sl 69 z0)), (9, .ptr 1 0)] [(0, some (.mp 9 3 z1)), (1, some (.box [.mp 0]))])) | _ => fun _ => none
def sh_z9z_L9 : SSt := mkSh 56 9 [(9, .ptr 1 0), (12, .own 65 4), (34, .sl 69), (35, .int .i64), (36, .int .i64)] [(0, .mp 9 3), (1, .box [.mp 0]), (4, .row 65)]
def LP_z9z_L9 (g : C_z9z) (n : Nat) : LPT A := fun ps => match ps with | [.d (.sl 69 p1), .d (.int .i64 p2), .d (.int .i64 p3), .mp 9 3 p4, .d (.sl 65 p5)] => fun K => z9z_L9 g n p1 p2 p3 p4 p5 (fun z0 z1 => K (.exit 2) (mkSt 56 9 [(9, .ptr 1 0), (12, .own 65 4)] [(0, some (.mp 9 3 z0)), (1, some (.box [.mp 0])), (4, some (.row 65 z1))])) | _ => fun _ => none
noncomputable def code_30 : Code := (Tryz.f30.body).getD .skip
noncomputable def E_z9z (g : C_z9z) : Env A := mkE [(29, SS_z0z g.z0z), (67, SS_Q_BandAt g.Q_BandAt), (79, SS_strconv_Itoa g.strconv_Itoa), (83, SS_z36z g.z36z)] [(9, [1]), (11, [3]), (14, [5]), (15, [0]), (20, [2]), (49, [6]), (50, [7]), (54, [8])] [(3, ⟨[0, 9, 20, 21, 22], [], [0, 1, 2], [], [], [], []⟩), (9, ⟨[9, 12, 34, 35, 36], [(12, 65, 4)], [0, 1], [], [], [], []⟩)] [(3, ⟨[0, 9], [], [0, 1], [], [], [], []⟩), (9, ⟨[9, 12], [], [0, 1, 4], [], [], [], []⟩)] [(3, pieceOf sh_z9z_L3 (LP_z9z_L3 g g.N)), (9, pieceOf sh_z9z_L9 (LP_z9z_L9 g g.N))] [] [] [] [(83, 0)] []
theorem ct_z9z [Fuel] : NatTab (E_z9z I_z9z).C := ct_of (P := Tryz.prog) (T := T) (.cons ok_z0z (.cons ok_Q_BandAt (.cons ok_strconv_Itoa (.cons ok_z36z .nil)))) (by kernel_rfl)
noncomputable def cb_z9z_L3 : Code := sub [1, 1, 0, 1, 0, 0] code_30
theorem s_z9z_L3 (g : C_z9z) (n : Nat) : StepOk (E_z9z g) g.N cb_z9z_L3 sh_z9z_L3 (LP_z9z_L3 g) n := by intro ps; unfold LP_z9z_L3; split; exact .inr fun R K => (by kernel_rfl); exact .inl fun R K => rfl
theorem lf_z9z_L3 [Fuel] : LoopFine (E_z9z I_z9z) NN cb_z9z_L3 := fine_loop sh_z9z_L3 (LP_z9z_L3 I_z9z) (by kernel_rfl) ct_z9z (cuts0 (fun _ => rfl) (by kernel_rfl)) (fun ps R K => by unfold LP_z9z_L3; split <;> (try unfold z9z_L3) <;> rfl) (s_z9z_L3 I_z9z)
noncomputable def cb_z9z_L9 : Code := sub [1, 1, 1, 1, 0, 1, 0, 0] code_30
theorem s_z9z_L9 (g : C_z9z) (n : Nat) : StepOk (E_z9z g) g.N cb_z9z_L9 sh_z9z_L9 (LP_z9z_L9 g) n := by intro ps; unfold LP_z9z_L9; split; exact .inr fun R K => (by kernel_rfl); exact .inl fun R K => rfl
theorem lf_z9z_L9 [Fuel] : LoopFine (E_z9z I_z9z) NN cb_z9z_L9 := fine_loop sh_z9z_L9 (LP_z9z_L9 I_z9z) (by kernel_rfl) ct_z9z (cuts0 (fun _ => rfl) (by kernel_rfl)) (fun ps R K => by unfold LP_z9z_L9; split <;> (try unfold z9z_L9) <;> rfl) (s_z9z_L9 I_z9z)
theorem sm_z9z (g : C_z9z) : Same (SS_z9z (@z9z_ g)) (abody (E_z9z g) Tryz.f30 code_30 9 [] [.arr 65] g.N) := by intro args; unfold SS_z9z; split; exact .inr fun R k => (by kernel_rfl); exact .inl fun R k => rfl
theorem ok_z9z [Fuel] : Ok 30 (SS_z9z (@z9z _)) := okF_of std (.cons ok_z0z (.cons ok_Q_BandAt (.cons ok_strconv_Itoa (.cons ok_z36z .nil)))) ⟨rfl, rfl, by kernel_rfl, rfl, rfl, rfl⟩ (sm_z9z I_z9z) (cutsL (fun _ => rfl) (.cons lf_z9z_L3 (.cons lf_z9z_L9 .nil)) (by kernel_rfl)) Tryz.func30 (by kernel_rfl) (by kernel_rfl)
abbrev T_z20z : Type 1 := List G_Spot → List G_Spot → {R : Type} → (Bool → Option R) → Option R
def z20z_L4 (g : Nat) : Nat → List G_Spot → List G_Spot → Int → Int → {R : Type} → (Bool → Option R) → Option R → Option R
 | 0, _, _, _, _, _, _, _ => none
 | n + 1, v3, v4, v5, v6, _, e0, e1 => (bif (decide (v6 < v5)) then (get_ v3 v6 fun x9 => (get_ v4 v6 fun x10 => (bif (!(eq_G_Spot x9 x10)) then e0 false else z20z_L4 g n v3 v4 v5 (w64 (v6 + 1)) e0 e1))) else e1)
def z20z_ (g : Nat) (a1 a2 : List G_Spot) {R : Type} (k0 : Bool → Option R) : Option R :=
 (bif ((a1.length : Int) != (a2.length : Int)) then k0 false else (z20z_L4 g g a1 a2 (a1.length : Int) 0 (fun e11 => k0 e11) (k0 true)))
noncomputable def z20z [Fuel] : T_z20z := @z20z_ NN
def p_z20z (args : List (IV A)) : Bool := match args with | [.d (.sl 52 _), .d (.sl 52 _)] => true | _ => false
def SS_z20z (g : T_z20z) : Spec A := fun args => match args with | [.d (.sl 52 a1), .d (.sl 52 a2)] => fun k => g a1 a2 (fun z0 => k (.d (.bool z0)) [.undef, .undef]) | _ => fun _ => none
def sh_z20z_L4 : SSt := mkSh 26 0 [(0, .sl 52), (1, .sl 52), (12, .int .i64), (13, .int .i64)] []
def LP_z20z_L4 (g : Nat) (n : Nat) : LPT A := fun ps => match ps with | [.d (.sl 52 p1), .d (.sl 52 p2), .d (.int .i64 p3), .d (.int .i64 p4)] => fun K => z20z_L4 g n p1 p2 p3 p4 (fun z0 => K .ret (mkSt 26 0 [(4, .d (.bool z0))] [])) (K (.exit 0) (mkSt 26 0 [] [])) | _ => fun _ => none
noncomputable def code_22 : Code := (Tryz.f22.body).getD .skip
noncomputable def E_z20z (g : Nat) : Env A := mkE [] [] [(4, ⟨[0, 1, 12, 13], [], [], [], [], [], []⟩)] [(4, ⟨[4], [], [], [], [], [], []⟩)] [(4, pieceOf sh_z20z_L4 (LP_z20z_L4 g g))] [] [] [] [] []
theorem ct_z20z [Fuel] : NatTab (E_z20z NN).C := ct_of (P := Tryz.prog) (T := T) .nil (by kernel_rfl)
noncomputable def cb_z20z_L4 : Code := sub [1, 1, 0, 1, 0, 0] code_22
theorem s_z20z_L4 (g : Nat) (n : Nat) : StepOk (E_z20z g) g cb_z20z_L4 sh_z20z_L4 (LP_z20z_L4 g) n := by intro ps; unfold LP_z20z_L4; split; exact .inr fun R K => (by kernel_rfl); exact .inl fun R K => rfl
theorem lf_z20z_L4 [Fuel] : LoopFine (E_z20z NN) NN cb_z20z_L4 := fine_loop sh_z20z_L4 (LP_z20z_L4 NN) (by kernel_rfl) ct_z20z (cuts0 (fun _ => rfl) (by kernel_rfl)) (fun ps R K => by unfold LP_z20z_L4; split <;> (try unfold z20z_L4) <;> rfl) (s_z20z_L4 NN)
theorem sm_z20z (g : Nat) : Same (SS_z20z (@z20z_ g)) (abody (E_z20z g) Tryz.f22 code_22 0 [] [.asis] g) := by intro args; unfold SS_z20z; split; exact .inr fun R k => (by kernel_rfl); exact .inl fun R k => rfl
theorem ok_z20z [Fuel] : Ok 22 (SS_z20z (@z20z _)) := okF_of std .nil ⟨rfl, rfl, by kernel_rfl, rfl, rfl, rfl⟩ (sm_z20z NN) (cutsL (fun _ => rfl) (.cons lf_z20z_L4 .nil) (by kernel_rfl)) Tryz.func22 (by kernel_rfl) (by kernel_rfl)
abbrev T_z24z : Type 1 := List G_Pair → List G_Pair → {R : Type} → (Bool → Option R) → Option R
def z24z_L4 (g : Nat) : Nat → List G_Pair → List G_Pair → Int → Int → {R : Type} → (Bool → Option R) → Option R → Option R
 | 0, _, _, _, _, _, _, _ => none
 | n + 1, v3, v4, v5, v6, _, e0, e1 => (bif (decide (v6 < v5)) then (get_ v3 v6 fun x9 => (get_ v4 v6 fun x10 => (bif (!(eq_G_Pair x9 x10)) then e0 false else z24z_L4 g n v3 v4 v5 (w64 (v6 + 1)) e0 e1))) else e1)
def z24z_ (g : Nat) (a1 a2 : List G_Pair) {R : Type} (k0 : Bool → Option R) : Option R :=
 (bif ((a1.length : Int) != (a2.length : Int)) then k0 false else (z24z_L4 g g a1 a2 (a1.length : Int) 0 (fun e11 => k0 e11) (k0 true)))
noncomputable def z24z [Fuel] : T_z24z := @z24z_ NN
def p_z24z (args : List (IV A)) : Bool := match args with | [.d (.sl 65 _), .d (.sl 65 _)] => true | _ => false
def SS_z24z (g : T_z24z) : Spec A := fun args => match args with | [.d (.sl 65 a1), .d (.sl 65 a2)] => fun k => g a1 a2 (fun z0 => k (.d (.bool z0)) [.undef, .undef]) | _ => fun _ => none
def sh_z24z_L4 : SSt := mkSh 26 0 [(0, .sl 65), (1, .sl 65), (12, .int .i64), (13, .int .i64)] []
def LP_z24z_L4 (g : Nat) (n : Nat) : LPT A := fun ps => match ps with | [.d (.sl 65 p1), .d (.sl 65 p2), .d (.int .i64 p3), .d (.int .i64 p4)] => fun K => z24z_L4 g n p1 p2 p3 p4 (fun z0 => K .ret (mkSt 26 0 [(4, .d (.bool z0))] [])) (K (.exit 0) (mkSt 26 0 [] [])) | _ => fun _ => none
noncomputable def code_32 : Code := (Tryz.f32.body).getD .skip
noncomputable def E_z24z (g : Nat) : Env A := mkE [] [] [(4, ⟨[0, 1, 12, 13], [], [], [], [], [], []⟩)] [(4, ⟨[4], [], [], [], [], [], []⟩)] [(4, pieceOf sh_z24z_L4 (LP_z24z_L4 g g))] [] [] [] [] []
theorem ct_z24z [Fuel] : NatTab (E_z24z NN).C := ct_of (P := Tryz.prog) (T := T) .nil (by kernel_rfl)
noncomputable def cb_z24z_L4 : Code := sub [1, 1, 0, 1, 0, 0] code_32
theorem s_z24z_L4 (g : Nat) (n : Nat) : StepOk (E_z24z g) g cb_z24z_L4 sh_z24z_L4 (LP_z24z_L4 g) n := by intro ps; unfold LP_z24z_L4; split; exact .inr fun R K => (by kernel_rfl); exact .inl fun R K => rfl
theorem lf_z24z_L4 [Fuel] : LoopFine (E_z24z NN) NN cb_z24z_L4 := fine_loop sh_z24z_L4 (LP_z24z_L4 NN) (by kernel_rfl) ct_z24z (cuts0 (fun _ => rfl) (by kernel_rfl)) (fun ps R K => by unfold LP_z24z_L4; split <;> (try unfold z24z_L4) <;> rfl) (s_z24z_L4 NN)
theorem sm_z24z (g : Nat) : Same (SS_z24z (@z24z_ g)) (abody (E_z24z g) Tryz.f32 code_32 0 [] [.asis] g) := by intro args; unfold SS_z24z; split; exact .inr fun R k => (by kernel_rfl); exact .inl fun R k => rfl
theorem ok_z24z [Fuel] : Ok 32 (SS_z24z (@z24z _)) := okF_of std .nil ⟨rfl, rfl, by kernel_rfl, rfl, rfl, rfl⟩ (sm_z24z NN) (cutsL (fun _ => rfl) (.cons lf_z24z_L4 .nil) (by kernel_rfl)) Tryz.func32 (by kernel_rfl) (by kernel_rfl)
abbrev T_kit_IsMode : Type 1 := Int → {R : Type} → (Bool → Option R) → Option R
structure C_kit_IsMode where
 N : Nat
 z62z : T_z62z
def kit_IsMode_ (g : C_kit_IsMode) (a1 : Int) {R : Type} (k0 : Bool → Option R) : Option R :=
 (g.z62z a1 1 3 (fun r2 => k0 (!r2)))
noncomputable def I_kit_IsMode [Fuel] : C_kit_IsMode := ⟨NN, @z62z _⟩
noncomputable def kit_IsMode [Fuel] : T_kit_IsMode := @kit_IsMode_ I_kit_IsMode
def SS_kit_IsMode (g : T_kit_IsMode) : Spec A := fun args => match args with | [.d (.int .i64 a1)] => fun k => g a1 (fun z0 => k (.d (.bool z0)) [.undef]) | _ => fun _ => none
noncomputable def code_49 : Code := (Tryz.f49.body).getD .skip
noncomputable def E_kit_IsMode (g : C_kit_IsMode) : Env A := mkE [(86, SS_z62z g.z62z)] [] [] [] [] [] [] [] [] []
theorem sm_kit_IsMode (g : C_kit_IsMode) : Same (SS_kit_IsMode (@kit_IsMode_ g)) (abody (E_kit_IsMode g) Tryz.f49 code_49 0 [] [.asis] g.N) := by intro args; unfold SS_kit_IsMode; split; exact .inr fun R k => (by kernel_rfl); exact .inl fun R k => rfl
theorem ok_kit_IsMode [Fuel] : Ok 49 (SS_kit_IsMode (@kit_IsMode _)) := okF_of std (.cons ok_z62z .nil) ⟨rfl, rfl, by kernel_rfl, rfl, rfl, rfl⟩ (sm_kit_IsMode I_kit_IsMode) (cuts0 (fun _ => rfl) (by kernel_rfl)) Tryz.func49 (by kernel_rfl) (by kernel_rfl)
abbrev T_z42z : Type 1 := List Int → {R : Type} → (Int → Option R) → Option R
structure C_z42z where
 N : Nat
 kit_IsMode : T_kit_IsMode
def z42z_L4 (g : C_z42z) : Nat → List Int → List Int → Int → Int → {R : Type} → (Int → Option R) → Option R → Option R
 | 0, _, _, _, _, _, _, _ => none
 | n + 1, v2, v3, v4, v5, _, e0, e1 => (bif (decide (v5 < v4)) then (get_ v3 v5 fun x9 => (g.kit_IsMode x9 (fun r10 => (bif (!r10) then e0 4 else (bif (decide (v5 > 0)) then (get_ v2 (w64 (v5 - 1)) fun x11 => (bif (decide (x9 ≤ x11)) then e0 7 else z42z_L4 g n v2 v3 v4 (w64 (v5 + 1)) e0 e1)) else z42z_L4 g n v2 v3 v4 (w64 (v5 + 1)) e0 e1))))) else e1)
def z42z_ (g : C_z42z) (a1 : List Int) {R : Type} (k0 : Int → Option R) : Option R :=
 (bif ((a1.length : Int) == 0) then k0 8 else (z42z_L4 g g.N a1 a1 (a1.length : Int) 0 (fun e12 => k0 e12) (k0 0)))
noncomputable def I_z42z [Fuel] : C_z42z := ⟨NN, @kit_IsMode _⟩
noncomputable def z42z [Fuel] : T_z42z := @z42z_ I_z42z
def SS_z42z (g : T_z42z) : Spec A := fun args => match args with | [.d (.sl 3 a1)] => fun k => g a1 (fun z0 => k (.d (.int .i64 z0)) [.undef]) | _ => fun _ => none
def sh_z42z_L4 : SSt := mkSh 30 0 [(0, .sl 3), (8, .sl 3), (9, .int .i64), (10, .int .i64)] []
def LP_z42z_L4 (g : C_z42z) (n : Nat) : LPT A := fun ps => match ps with | [.d (.sl 3 p1), .d (.sl 3 p2), .d (.int .i64 p3), .d (.int .i64 p4)] => fun K => z42z_L4 g n p1 p2 p3 p4 (fun z0 => K .ret (mkSt 30 0 [(2, .d (.int .i64 z0))] [])) (K (.exit 0) (mkSt 30 0 [] [])) | _ => fun _ => none
noncomputable def code_148 : Code := (Tryz.f148.body).getD .skip
noncomputable def E_z42z (g : C_z42z) : Env A := mkE [(49, SS_kit_IsMode g.kit_IsMode)] [] [(4, ⟨[0, 8, 9, 10], [], [], [], [], [], []⟩)] [(4, ⟨[2], [], [], [], [], [], []⟩)] [(4, pieceOf sh_z42z_L4 (LP_z42z_L4 g g.N))] [] [] [] [] []
theorem ct_z42z [Fuel] : NatTab (E_z42z I_z42z).C := ct_of (P := Tryz.prog) (T := T) (.cons ok_kit_IsMode .nil) (by kernel_rfl)
noncomputable def cb_z42z_L4 : Code := sub [1, 1, 0, 1, 0, 0] code_148
theorem s_z42z_L4 (g : C_z42z) (n : Nat) : StepOk (E_z42z g) g.N cb_z42z_L4 sh_z42z_L4 (LP_z42z_L4 g) n := by intro ps; unfold LP_z42z_L4; split; exact .inr fun R K => (by kernel_rfl); exact .inl fun R K => rfl
theorem lf_z42z_L4 [Fuel] : LoopFine (E_z42z I_z42z) NN cb_z42z_L4 := fine_loop sh_z42z_L4 (LP_z42z_L4 I_z42z) (by kernel_rfl) ct_z42z (cuts0 (fun _ => rfl) (by kernel_rfl)) (fun ps R K => by unfold LP_z42z_L4; split <;> (try unfold z42z_L4) <;> rfl) (s_z42z_L4 I_z42z)
theorem sm_z42z (g : C_z42z) : Same (SS_z42z (@z42z_ g)) (abody (E_z42z g) Tryz.f148 code_148 0 [] [.asis] g.N) := by intro args; unfold SS_z42z; split; exact .inr fun R k => (by kernel_rfl); exact .inl fun R k => rfl
theorem ok_z42z [Fuel] : Ok 148 (SS_z42z (@z42z _)) := okF_of std (.cons ok_kit_IsMode .nil) ⟨rfl, rfl, by kernel_rfl, rfl, rfl, rfl⟩ (sm_z42z I_z42z) (cutsL (fun _ => rfl) (.cons lf_z42z_L4 .nil) (by kernel_rfl)) Tryz.func148 (by kernel_rfl) (by kernel_rfl)
abbrev T_kit_IsTime : Type 1 := G_Window → {R : Type} → (Bool → Option R) → Option R
def kit_IsTime_ (g : Nat) (a1 : G_Window) {R : Type} (k0 : Bool → Option R) : Option R :=
 (bif (decide (a1.f_From ≥ 0)) then (bif (decide (a1.f_From < a1.f_To)) then k0 (decide (a1.f_To ≤ 345686400000)) else k0 false) else k0 false)
noncomputable def kit_IsTime [Fuel] : T_kit_IsTime := @kit_IsTime_ NN
def SS_kit_IsTime (g : T_kit_IsTime) : Spec A := fun args => match args with | [.agg [.d (.int .i64 a1), .d (.int .i64 a2)]] => fun k => g ⟨a1, a2⟩ (fun z0 => k (.d (.bool z0)) [.undef]) | _ => fun _ => none
noncomputable def code_149 : Code := (Tryz.f149.body).getD .skip
noncomputable def E_kit_IsTime (g : Nat) : Env A := mkE [] [(1, [0])] [] [] [] [] [] [] [] []
theorem sm_kit_IsTime (g : Nat) : Same (SS_kit_IsTime (@kit_IsTime_ g)) (abody (E_kit_IsTime g) Tryz.f149 code_149 1 [] [.asis] g) := by intro args; unfold SS_kit_IsTime; split; exact .inr fun R k => (by kernel_rfl); exact .inl fun R k => rfl
theorem ok_kit_IsTime [Fuel] : Ok 149 (SS_kit_IsTime (@kit_IsTime _)) := okF_of std .nil ⟨rfl, rfl, by kernel_rfl, rfl, rfl, rfl⟩ (sm_kit_IsTime NN) (cuts0 (fun _ => rfl) (by kernel_rfl)) Tryz.func149 (by kernel_rfl) (by kernel_rfl)
end Go.Am
