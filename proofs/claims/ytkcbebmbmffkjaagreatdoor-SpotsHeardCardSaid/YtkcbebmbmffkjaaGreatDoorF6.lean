/- The functions of the program as Lean functions, each shown to be what the code computes, part 6. No condition: lemmas for the claim. -/
import Derived.Test.YtkcbebmbmffkjaaGreatDoorF0
import Derived.Test.YtkcbebmbmffkjaaGreatDoorFSh
import Derived.Test.YtkcbebmbmffkjaaGreatDoorF3
import Derived.Test.YtkcbebmbmffkjaaGreatDoorF4
import Derived.Test.YtkcbebmbmffkjaaGreatDoorF5
set_option linter.unusedVariables false
set_option maxRecDepth 100000
namespace Go.Am
open Go Go.Proofs
abbrev T_z5z : Type 1 := List Int → Int → Int → List Int → {R : Type} → (List Int → List Int → Option R) → Option R
structure C_z5z where
 N : Nat
 z83z : T_z83z
def z5z_L4 (g : C_z5z) : Nat → Int → Int → Int → Int → List Int → List Int → {R : Type} → (Int → Int → Int → List Int → List Int → Option R) → (Int → Int → Int → List Int → List Int → Option R) → Option R
 | 0, _, _, _, _, _, _, _, _, _ => none
 | n + 1, v42, v43, v44, v45, v46, v47, _, e0, e1 => (bif (decide (v45 > v42)) then (inr v46 v45 (at_ v46 v45 fun x56 => (inr v46 (w64 (v45 - 1)) (at_ v46 (w64 (v45 - 1)) fun x57 => (g.z83z x56 x57 v47 (fun r58 r59 => (bif (decide (r58 < 0)) then (inr v46 (w64 (v45 - 1)) (at_ v46 (w64 (v45 - 1)) fun x60 => (inr v46 v45 (at_ v46 v45 fun x61 => (inr v46 v45 (at_ v46 v45 fun x62 => (inr (set_ v46 v45 x60) (w64 (v45 - 1)) (at_ (set_ v46 v45 x60) (w64 (v45 - 1)) fun x63 => z5z_L4 g n v42 v43 v44 (w64 (v45 - 1)) (set_ (set_ v46 v45 x60) (w64 (v45 - 1)) x61) r59 e0 e1)))))))) else e0 v42 v43 v44 v46 r59))))))) else e1 v42 v43 v44 v46 v47)
def z5z_L1 (g : C_z5z) : Nat → Int → Int → Int → List Int → List Int → {R : Type} → (List Int → List Int → Option R) → Option R
 | 0, _, _, _, _, _, _, _ => none
 | n + 1, v5, v6, v7, v8, v9, _, e0 => (bif (decide (v7 < v6)) then (z5z_L4 g g.N v5 v6 v7 v7 v8 v9 (fun e64 e65 e66 e67 e68 => z5z_L1 g n e64 e65 (w64 (e66 + 1)) e67 e68 e0) (fun e69 e70 e71 e72 e73 => z5z_L1 g n e69 e70 (w64 (e71 + 1)) e72 e73 e0)) else e0 v8 v9)
def z5z_ (g : C_z5z) (a1 : List Int) (a2 a3 : Int) (a4 : List Int) {R : Type} (k0 : List Int → List Int → Option R) : Option R :=
 (z5z_L1 g g.N a2 a3 (w64 (a2 + 1)) a1 a4 (fun e74 e75 => k0 e74 e75))
noncomputable def I_z5z [Fuel] : C_z5z := ⟨NN, @z83z _⟩
noncomputable def z5z [Fuel] : T_z5z := @z5z_ I_z5z
def SS_z5z (g : T_z5z) : Spec A := fun args => match args with | [.arr 3 a1, .d (.int .i64 a2), .d (.int .i64 a3), .fn 78 [.box [.arr 3 a4]]] => fun k => g a1 a2 a3 a4 (fun z0 z1 => k (.tup []) [.arr 3 z0, .undef, .undef, .fn 78 [.box [.arr 3 z1]]]) | _ => fun _ => none
def sh_z5z_L4 : SSt := mkSh 53 6 [(0, .own 3 0), (1, .int .i64), (2, .int .i64), (3, .fn 78 [.ptr 1 0]), (8, .int .i64), (9, .int .i64)] [(0, .row 3), (1, .box [.own 3 4]), (4, .row 3)]
def LP_z5z_L4 (g : C_z5z) (n : Nat) : LPT A := fun ps => match ps with | [.d (.int .i64 p1), .d (.int .i64 p2), .d (.int .i64 p3), .d (.int .i64 p4), .d (.sl 3 p5), .d (.sl 3 p6)] => fun K => z5z_L4 g n p1 p2 p3 p4 p5 p6 (fun z0 z1 z2 z3 z4 => K (.exit 2) (mkSt 53 6 [(0, .own 3 0), (1, .d (.int .i64 z0)), (2, .d (.int .i64 z1)), (3, .fn 78 [.ptr 1 0]), (8, .d (.int .i64 z2))] [(0, some (.row 3 z3)), (1, some (.box [.own 3 5])), (4, some (.gone (0, 3))), (5, some (.row 3 z4))])) (fun z0 z1 z2 z3 z4 => K (.exit 2) (mkSt 53 6 [(0, .own 3 0), (1, .d (.int .i64 z0)), (2, .d (.int .i64 z1)), (3, .fn 78 [.ptr 1 0]), (8, .d (.int .i64 z2))] [(0, some (.row 3 z3)), (1, some (.box [.own 3 4])), (4, some (.row 3 z4))])) | _ => fun _ => none
def sh_z5z_L1 : SSt := mkSh 53 6 [(0, .own 3 0), (1, .int .i64), (2, .int .i64), (3, .fn 78 [.ptr 1 0]), (8, .int .i64)] [(0, .row 3), (1, .box [.own 3 3]), (3, .row 3)]
def LP_z5z_L1 (g : C_z5z) (n : Nat) : LPT A := fun ps => match ps with | [.d (.int .i64 p1), .d (.int .i64 p2), .d (.int .i64 p3), .d (.sl 3 p4), .d (.sl 3 p5)] => fun K => z5z_L1 g n p1 p2 p3 p4 p5 (fun z0 z1 => K (.exit 0) (mkSt 53 6 [(0, .own 3 0), (3, .fn 78 [.ptr 1 0])] [(0, some (.row 3 z0)), (1, some (.box [.own 3 3])), (3, some (.row 3 z1))])) | _ => fun _ => none
noncomputable def code_166 : Code := (Tryz.f166.body).getD .skip
noncomputable def E_z5z (g : C_z5z) : Env A := mkE [(78, SS_z83z g.z83z)] [(32, [5])] [(4, ⟨[0, 1, 2, 3, 8, 9], [], [0, 1], [(1, 0, 3, 4)], [], [], []⟩), (1, ⟨[0, 1, 2, 3, 8], [], [0, 1], [(1, 0, 3, 3)], [], [], []⟩)] [(4, ⟨[0, 1, 2, 3, 8], [], [0, 1, 4, 5], [], [], [], []⟩), (1, ⟨[0, 3], [], [0, 1, 3], [], [], [], []⟩)] [(4, pieceOf sh_z5z_L4 (LP_z5z_L4 g g.N)), (1, pieceOf sh_z5z_L1 (LP_z5z_L1 g g.N))] [] [] [] [] [0, 3]
theorem ct_z5z [Fuel] : NatTab (E_z5z I_z5z).C := ct_of (P := Tryz.prog) (T := T) (.cons ok_z83z .nil) (by kernel_rfl)
noncomputable def cb_z5z_L4 : Code := sub [1, 0, 0, 1, 0, 0, 1, 0, 0] code_166
theorem s_z5z_L4 (g : C_z5z) (n : Nat) : StepOk (E_z5z g) g.N cb_z5z_L4 sh_z5z_L4 (LP_z5z_L4 g) n := by intro ps; unfold LP_z5z_L4; split; exact .inr fun R K => (by kernel_rfl); exact .inl fun R K => rfl
theorem lf_z5z_L4 [Fuel] : LoopFine (E_z5z I_z5z) NN cb_z5z_L4 := fine_loop sh_z5z_L4 (LP_z5z_L4 I_z5z) (by kernel_rfl) ct_z5z (cuts0 (fun _ => rfl) (by kernel_rfl)) (fun ps R K => by unfold LP_z5z_L4; split <;> (try unfold z5z_L4) <;> rfl) (s_z5z_L4 I_z5z)
noncomputable def cb_z5z_L1 : Code := sub [1, 0, 0] code_166
theorem s_z5z_L1 (g : C_z5z) (n : Nat) : StepOk (E_z5z g) g.N cb_z5z_L1 sh_z5z_L1 (LP_z5z_L1 g) n := by intro ps; unfold LP_z5z_L1; split; exact .inr fun R K => (by kernel_rfl); exact .inl fun R K => rfl
theorem lf_z5z_L1 [Fuel] : LoopFine (E_z5z I_z5z) NN cb_z5z_L1 := fine_loop sh_z5z_L1 (LP_z5z_L1 I_z5z) (by kernel_rfl) ct_z5z (cutsL (fun _ => rfl) (.cons lf_z5z_L4 .nil) (by kernel_rfl)) (fun ps R K => by unfold LP_z5z_L1; split <;> (try unfold z5z_L1) <;> rfl) (s_z5z_L1 I_z5z)
theorem sm_z5z (g : C_z5z) : Same (SS_z5z (@z5z_ g)) (abody (E_z5z g) Tryz.f166 code_166 6 [0, 1, 2] [] g.N) := by intro args; unfold SS_z5z; split; exact .inr fun R k => (by kernel_rfl); exact .inl fun R k => rfl
theorem ok_z5z [Fuel] : Ok 166 (SS_z5z (@z5z _)) := okF_of std (.cons ok_z83z .nil) ⟨rfl, rfl, by kernel_rfl, rfl, rfl, rfl⟩ (sm_z5z I_z5z) (cutsL (fun _ => rfl) (.cons lf_z5z_L4 (.cons lf_z5z_L1 .nil)) (by kernel_rfl)) Tryz.func166 (by kernel_rfl) (by kernel_rfl)
abbrev T_z2z : Type 1 := List Int → Int → List Int → {R : Type} → (List Int → List Int → Option R) → Option R
structure C_z2z where
 N : Nat
 z5z : T_z5z
def z2z_L2 (g : C_z2z) : Nat → Int → Int → Int → Int → List Int → List Int → {R : Type} → (Int → Int → Int → List Int → List Int → Option R) → Option R
 | 0, _, _, _, _, _, _, _, _ => none
 | n + 1, v4, v5, v6, v7, v8, v9, _, e0 => (bif (decide (v7 ≤ v4)) then (g.z5z v8 v6 v7 v9 (fun r12 r13 => z2z_L2 g n v4 v5 v7 (w64 (v7 + v5)) r12 r13 e0)) else e0 v4 v5 v6 v8 v9)
def z2z_L9 (g : C_z2z) : Nat → Int → Int → Int → Int → List Int → List Int → {R : Type} → (Int → Int → Int → List Int → List Int → Option R) → Option R
 | 0, _, _, _, _, _, _, _, _ => none
 | n + 1, v36, v37, v38, v39, v40, v41, _, e0 => (bif (decide (v39 ≤ v36)) then none else e0 v36 v37 v38 v40 v41)
def z2z_L7 (g : C_z2z) : Nat → Int → Int → List Int → List Int → {R : Type} → (List Int → List Int → Option R) → Option R
 | 0, _, _, _, _, _, _ => none
 | n + 1, v21, v22, v23, v24, _, e0 => (bif (decide (v22 < v21)) then (z2z_L9 g g.N v21 v22 0 (w64 (2 * v22)) v23 v24 (fun e42 e43 e44 e45 e46 => (bif (decide ((w64 (e44 + e43)) < e42)) then none else z2z_L7 g n e42 (w64 (e43 * 2)) e45 e46 e0))) else e0 v23 v24)
def z2z_ (g : C_z2z) (a1 : List Int) (a2 : Int) (a3 : List Int) {R : Type} (k0 : List Int → List Int → Option R) : Option R :=
 (z2z_L2 g g.N a2 20 0 20 a1 a3 (fun e14 e15 e16 e17 e18 => (g.z5z e17 e16 e14 e18 (fun r19 r20 => (z2z_L7 g g.N e14 e15 r19 r20 (fun e47 e48 => k0 e47 e48))))))
noncomputable def I_z2z [Fuel] : C_z2z := ⟨NN, @z5z _⟩
noncomputable def z2z [Fuel] : T_z2z := @z2z_ I_z2z
def SS_z2z (g : T_z2z) : Spec A := fun args => match args with | [.arr 3 a1, .d (.int .i64 a2), .fn 78 [.box [.arr 3 a3]]] => fun k => g a1 a2 a3 (fun z0 z1 => k (.tup []) [.arr 3 z0, .undef, .fn 78 [.box [.arr 3 z1]]]) | _ => fun _ => none
def sh_z2z_L2 : SSt := mkSh 63 8 [(0, .own 3 0), (1, .int .i64), (2, .fn 78 [.ptr 1 0]), (6, .int .i64), (7, .int .i64), (8, .int .i64)] [(0, .row 3), (1, .box [.own 3 3]), (3, .row 3)]
def LP_z2z_L2 (g : C_z2z) (n : Nat) : LPT A := fun ps => match ps with | [.d (.int .i64 p1), .d (.int .i64 p2), .d (.int .i64 p3), .d (.int .i64 p4), .d (.sl 3 p5), .d (.sl 3 p6)] => fun K => z2z_L2 g n p1 p2 p3 p4 p5 p6 (fun z0 z1 z2 z3 z4 => K (.exit 0) (mkSt 63 8 [(0, .own 3 0), (1, .d (.int .i64 z0)), (2, .fn 78 [.ptr 1 0]), (6, .d (.int .i64 z1)), (7, .d (.int .i64 z2))] [(0, some (.row 3 z3)), (1, some (.box [.own 3 3])), (3, some (.row 3 z4))])) | _ => fun _ => none
def sh_z2z_L9 : SSt := mkSh 63 8 [(0, .own 3 0), (1, .int .i64), (2, .fn 78 [.ptr 1 0]), (6, .int .i64), (7, .int .i64), (8, .int .i64)] [(0, .row 3), (1, .box [.own 3 7]), (7, .row 3)]
def LP_z2z_L9 (g : C_z2z) (n : Nat) : LPT A := fun ps => match ps with | [.d (.int .i64 p1), .d (.int .i64 p2), .d (.int .i64 p3), .d (.int .i64 p4), .d (.sl 3 p5), .d (.sl 3 p6)] => fun K => z2z_L9 g n p1 p2 p3 p4 p5 p6 (fun z0 z1 z2 z3 z4 => K (.exit 4) (mkSt 63 8 [(0, .own 3 0), (1, .d (.int .i64 z0)), (2, .fn 78 [.ptr 1 0]), (6, .d (.int .i64 z1)), (7, .d (.int .i64 z2))] [(0, some (.row 3 z3)), (1, some (.box [.own 3 7])), (7, some (.row 3 z4))])) | _ => fun _ => none
def sh_z2z_L7 : SSt := mkSh 63 8 [(0, .own 3 0), (1, .int .i64), (2, .fn 78 [.ptr 1 0]), (6, .int .i64)] [(0, .row 3), (1, .box [.own 3 6]), (6, .row 3)]
def LP_z2z_L7 (g : C_z2z) (n : Nat) : LPT A := fun ps => match ps with | [.d (.int .i64 p1), .d (.int .i64 p2), .d (.sl 3 p3), .d (.sl 3 p4)] => fun K => z2z_L7 g n p1 p2 p3 p4 (fun z0 z1 => K (.exit 2) (mkSt 63 8 [(0, .own 3 0), (2, .fn 78 [.ptr 1 0])] [(0, some (.row 3 z0)), (1, some (.box [.own 3 6])), (6, some (.row 3 z1))])) | _ => fun _ => none
noncomputable def code_125 : Code := (Tryz.f125.body).getD .skip
noncomputable def E_z2z (g : C_z2z) : Env A := mkE [(166, SS_z5z g.z5z)] [(18, [4]), (27, [5])] [(2, ⟨[0, 1, 2, 6, 7, 8], [], [0, 1], [(1, 0, 3, 3)], [], [], []⟩), (9, ⟨[0, 1, 2, 6, 7, 8], [], [0, 1], [(1, 0, 3, 7)], [], [], []⟩), (7, ⟨[0, 1, 2, 6], [], [0, 1], [(1, 0, 3, 6)], [], [], []⟩)] [(2, ⟨[0, 1, 2, 6, 7], [], [0, 1, 3], [], [], [], []⟩), (9, ⟨[0, 1, 2, 6, 7], [], [0, 1, 7], [], [], [], []⟩), (7, ⟨[0, 2], [], [0, 1, 6], [], [], [], []⟩)] [(2, pieceOf sh_z2z_L2 (LP_z2z_L2 g g.N)), (9, pieceOf sh_z2z_L9 (LP_z2z_L9 g g.N)), (7, pieceOf sh_z2z_L7 (LP_z2z_L7 g g.N))] [] [] [] [(166, 0)] [0, 2]
theorem ct_z2z [Fuel] : NatTab (E_z2z I_z2z).C := ct_of (P := Tryz.prog) (T := T) (.cons ok_z5z .nil) (by kernel_rfl)
noncomputable def cb_z2z_L2 : Code := sub [1, 1, 0, 0, 0] code_125
theorem s_z2z_L2 (g : C_z2z) (n : Nat) : StepOk (E_z2z g) g.N cb_z2z_L2 sh_z2z_L2 (LP_z2z_L2 g) n := by intro ps; unfold LP_z2z_L2; split; exact .inr fun R K => (by kernel_rfl); exact .inl fun R K => rfl
theorem lf_z2z_L2 [Fuel] : LoopFine (E_z2z I_z2z) NN cb_z2z_L2 := fine_loop sh_z2z_L2 (LP_z2z_L2 I_z2z) (by kernel_rfl) ct_z2z (cuts0 (fun _ => rfl) (by kernel_rfl)) (fun ps R K => by unfold LP_z2z_L2; split <;> (try unfold z2z_L2) <;> rfl) (s_z2z_L2 I_z2z)
noncomputable def cb_z2z_L9 : Code := sub [1, 1, 1, 1, 0, 0, 1, 0, 1, 0, 0, 0] code_125
theorem s_z2z_L9 (g : C_z2z) (n : Nat) : StepOk (E_z2z g) g.N cb_z2z_L9 sh_z2z_L9 (LP_z2z_L9 g) n := by intro ps; unfold LP_z2z_L9; split; exact .inr fun R K => (by kernel_rfl); exact .inl fun R K => rfl
theorem lf_z2z_L9 [Fuel] : LoopFine (E_z2z I_z2z) NN cb_z2z_L9 := fine_loop sh_z2z_L9 (LP_z2z_L9 I_z2z) (by kernel_rfl) ct_z2z (cuts0 (fun _ => rfl) (by kernel_rfl)) (fun ps R K => by unfold LP_z2z_L9; split <;> (try unfold z2z_L9) <;> rfl) (s_z2z_L9 I_z2z)
noncomputable def cb_z2z_L7 : Code := sub [1, 1, 1, 1, 0, 0] code_125
theorem s_z2z_L7 (g : C_z2z) (n : Nat) : StepOk (E_z2z g) g.N cb_z2z_L7 sh_z2z_L7 (LP_z2z_L7 g) n := by intro ps; unfold LP_z2z_L7; split; exact .inr fun R K => (by kernel_rfl); exact .inl fun R K => rfl
theorem lf_z2z_L7 [Fuel] : LoopFine (E_z2z I_z2z) NN cb_z2z_L7 := fine_loop sh_z2z_L7 (LP_z2z_L7 I_z2z) (by kernel_rfl) ct_z2z (cutsL (fun _ => rfl) (.cons lf_z2z_L9 .nil) (by kernel_rfl)) (fun ps R K => by unfold LP_z2z_L7; split <;> (try unfold z2z_L7) <;> rfl) (s_z2z_L7 I_z2z)
theorem sm_z2z (g : C_z2z) : Same (SS_z2z (@z2z_ g)) (abody (E_z2z g) Tryz.f125 code_125 8 [0, 1, 2] [] g.N) := by intro args; unfold SS_z2z; split; exact .inr fun R k => (by kernel_rfl); exact .inl fun R k => rfl
theorem ok_z2z [Fuel] : Ok 125 (SS_z2z (@z2z _)) := okF_of std (.cons ok_z5z .nil) ⟨rfl, rfl, by kernel_rfl, rfl, rfl, rfl⟩ (sm_z2z I_z2z) (cutsL (fun _ => rfl) (.cons lf_z2z_L2 (.cons lf_z2z_L9 (.cons lf_z2z_L7 .nil))) (by kernel_rfl)) Tryz.func125 (by kernel_rfl) (by kernel_rfl)
abbrev T_z30z : Type 1 := List Int → List Int → {R : Type} → (List Int → List Int → Option R) → Option R
structure C_z30z where
 N : Nat
 z2z : T_z2z
def z30z_ (g : C_z30z) (a1 a2 : List Int) {R : Type} (k0 : List Int → List Int → Option R) : Option R :=
 (g.z2z a1 (a1.length : Int) a2 (fun r3 r4 => k0 r3 r4))
noncomputable def I_z30z [Fuel] : C_z30z := ⟨NN, @z2z _⟩
noncomputable def z30z [Fuel] : T_z30z := @z30z_ I_z30z
def SS_z30z (g : T_z30z) : Spec A := fun args => match args with | [.arr 3 a1, .fn 78 [.box [.arr 3 a2]]] => fun k => g a1 a2 (fun z0 z1 => k (.tup []) [.arr 3 z0, .fn 78 [.box [.arr 3 z1]]]) | _ => fun _ => none
noncomputable def code_77 : Code := (Tryz.f77.body).getD .skip
noncomputable def E_z30z (g : C_z30z) : Env A := mkE [(125, SS_z2z g.z2z)] [(8, [3])] [] [] [] [] [] [] [(125, 0)] [0, 1]
theorem sm_z30z (g : C_z30z) : Same (SS_z30z (@z30z_ g)) (abody (E_z30z g) Tryz.f77 code_77 4 [0, 1, 2] [] g.N) := by intro args; unfold SS_z30z; split; exact .inr fun R k => (by kernel_rfl); exact .inl fun R k => rfl
theorem ok_z30z [Fuel] : Ok 77 (SS_z30z (@z30z _)) := okF_of std (.cons ok_z2z .nil) ⟨rfl, rfl, by kernel_rfl, rfl, rfl, rfl⟩ (sm_z30z I_z30z) (cuts0 (fun _ => rfl) (by kernel_rfl)) Tryz.func77 (by kernel_rfl) (by kernel_rfl)
abbrev T_strconv_Itoa : Type 1 := Int → {R : Type} → (List UInt8 → Option R) → Option R
def strconv_Itoa [Fuel] : T_strconv_Itoa := @X_itoa
def SS_strconv_Itoa (g : T_strconv_Itoa) : Spec A := SSX_itoa g
theorem ok_strconv_Itoa [Fuel] : Ok 79 (SS_strconv_Itoa (@strconv_Itoa _)) := ⟨ssx_itoa_sound (fun w h => h) (fun n w h0 h1 ht => Any.strconv_Itoa Tryz.laysM171 n h0 h1 w ht), ssx_itoa_nat, enters_of (fn := Tryz.f79) Tryz.func79 (by kernel_rfl) (by kernel_rfl)⟩
abbrev T_z3z : Type 1 := List G_Band → List G_Spot → Int → Int → {R : Type} → (List G_Pair → Int → Option R) → Option R
structure C_z3z where
 N : Nat
 z70z : T_z70z
 z69z : T_z69z
 band_heard : T_band_heard
 z30z : T_z30z
 strconv_Itoa : T_strconv_Itoa
def z3z_L11 (g : C_z3z) : Nat → List G_Band → Int → Int → List Int → List Int → List Int → {R : Type} → (List G_Band → List Int → List Int → List Int → Option R) → Option R
 | 0, _, _, _, _, _, _, _, _ => none
 | n + 1, v9, v10, v11, v12, v13, v14, _, e0 => (bif (decide (v11 < v10)) then (bif (decide ((v13.length + [v11].length) * 8 ≤ roomBytes')) then z3z_L11 g n v9 v10 (w64 (v11 + 1)) v12 (v13 ++ [v11]) v14 e0 else none) else e0 v9 v12 v13 v14)
def z3z_L16 (g : C_z3z) : Nat → List G_Band → Int → Int → List Int → List Int → List Int → {R : Type} → (List G_Band → List Int → List Int → Option R) → Option R
 | 0, _, _, _, _, _, _, _, _ => none
 | n + 1, v19, v20, v21, v22, v23, v24, _, e0 => (bif (decide (v21 < v20)) then (inr v22 v21 (at_ v22 v21 fun x28 => (inr v24 x28 (at_ v24 x28 fun x29 => (inr v24 x28 (at_ v24 x28 fun x30 => z3z_L16 g n v19 v20 (w64 (v21 + 1)) v22 v23 (set_ v24 x28 (w64 (x29 + 1))) e0)))))) else e0 v19 v23 v24)
def z3z_L23 (g : C_z3z) : Nat → List G_Band → Int → Int → List Int → List G_Pair → List Int → {R : Type} → (List G_Pair → Option R) → Option R
 | 0, _, _, _, _, _, _, _, _ => none
 | n + 1, v36, v37, v38, v39, v40, v41, _, e0 => (bif (decide (v38 < v37)) then (inr v39 v38 (at_ v39 v38 fun x46 => (get_ v36 x46 fun x47 => (inr v41 x46 (at_ v41 x46 fun x48 => (g.strconv_Itoa x48 (fun r49 => (bif (decide ((v40.length + [(⟨x47.f_Key, r49⟩ : G_Pair)].length) * 32 ≤ roomBytes')) then z3z_L23 g n v36 v37 (w64 (v38 + 1)) v39 (v40 ++ [(⟨x47.f_Key, r49⟩ : G_Pair)]) v41 e0 else none)))))))) else e0 v40)
def z3z_ (g : C_z3z) (a1 : List G_Band) (a2 : List G_Spot) (a3 a4 : Int) {R : Type} (k0 : List G_Pair → Int → Option R) : Option R :=
 (g.z70z a1 a2 (fun r5 => (bif (r5 != 0) then k0 [] r5 else (g.z69z a3 a4 0 (fun r6 => (bif (r6 != 0) then k0 [] r6 else (g.band_heard a1 a2 a3 a4 (fun r7 r8 => (bif (decide (0 ≤ (a1.length : Int)) && (decide ((a1.length : Int) ≤ (a1.length : Int)) && decide ((a1.length : Int) * (8 : Nat) ≤ 140737488355328))) then (bif (decide (0 ≤ 0) && (decide (0 ≤ (a1.length : Int)) && decide ((a1.length : Int) * (8 : Nat) ≤ 140737488355328))) then (z3z_L11 g g.N a1 (a1.length : Int) 0 r8 (List.replicate (0 : Int).toNat 0) (List.replicate ((a1.length : Int) : Int).toNat 0) (fun e15 e16 e17 e18 => (z3z_L16 g g.N e15 (e16.length : Int) 0 e16 e17 e18 (fun e31 e32 e33 => (g.z30z e32 e33 (fun r34 r35 => (z3z_L23 g g.N e31 (r34.length : Int) 0 r34 [] r35 (fun e50 => k0 e50 0)))))))) else none) else none)))))))))
noncomputable def I_z3z [Fuel] : C_z3z := ⟨NN, @z70z _, @z69z _, @band_heard _, @z30z _, @strconv_Itoa _⟩
noncomputable def z3z [Fuel] : T_z3z := @z3z_ I_z3z
def SS_z3z (g : T_z3z) : Spec A := fun args => match args with | [.d (.sl 69 a1), .d (.sl 52 a2), .d (.int .i64 a3), .d (.int .i64 a4)] => fun k => g a1 a2 a3 a4 (fun z0 z1 => k (.tup [.arr 65 z0, .d (.int .i64 z1)]) [.undef, .undef, .undef, .undef]) | _ => fun _ => none
def sh_z3z_L11 : SSt := mkSh 96 15 [(0, .sl 69), (13, .own 3 1), (14, .ptr 3 0), (15, .own 3 5), (49, .int .i64), (50, .int .i64)] [(1, .row 3), (3, .box [.own 3 6]), (5, .row 3), (6, .row 3)]
def LP_z3z_L11 (g : C_z3z) (n : Nat) : LPT A := fun ps => match ps with | [.d (.sl 69 p1), .d (.int .i64 p2), .d (.int .i64 p3), .d (.sl 3 p4), .d (.sl 3 p5), .d (.sl 3 p6)] => fun K => z3z_L11 g n p1 p2 p3 p4 p5 p6 (fun z0 z1 z2 z3 => K (.exit 0) (mkSt 96 15 [(0, .d (.sl 69 z0)), (13, .own 3 1), (14, .ptr 3 0), (15, .own 3 5)] [(1, some (.row 3 z1)), (3, some (.box [.own 3 6])), (5, some (.row 3 z2)), (6, some (.row 3 z3))])) | _ => fun _ => none
def sh_z3z_L16 : SSt := mkSh 96 15 [(0, .sl 69), (14, .ptr 3 0), (15, .own 3 5), (58, .own 3 1), (59, .int .i64), (60, .int .i64)] [(1, .row 3), (3, .box [.own 3 9]), (5, .row 3), (9, .row 3)]
def LP_z3z_L16 (g : C_z3z) (n : Nat) : LPT A := fun ps => match ps with | [.d (.sl 69 p1), .d (.int .i64 p2), .d (.int .i64 p3), .d (.sl 3 p4), .d (.sl 3 p5), .d (.sl 3 p6)] => fun K => z3z_L16 g n p1 p2 p3 p4 p5 p6 (fun z0 z1 z2 => K (.exit 2) (mkSt 96 15 [(0, .d (.sl 69 z0)), (14, .ptr 3 0), (15, .own 3 5)] [(3, some (.box [.own 3 9])), (5, some (.row 3 z1)), (9, some (.row 3 z2))])) | _ => fun _ => none
def sh_z3z_L23 : SSt := mkSh 96 15 [(0, .sl 69), (14, .ptr 3 0), (19, .own 65 11), (74, .own 3 5), (75, .int .i64), (76, .int .i64)] [(3, .box [.own 3 12]), (5, .row 3), (11, .row 65), (12, .row 3)]
def LP_z3z_L23 (g : C_z3z) (n : Nat) : LPT A := fun ps => match ps with | [.d (.sl 69 p1), .d (.int .i64 p2), .d (.int .i64 p3), .d (.sl 3 p4), .d (.sl 65 p5), .d (.sl 3 p6)] => fun K => z3z_L23 g n p1 p2 p3 p4 p5 p6 (fun z0 => K (.exit 4) (mkSt 96 15 [(19, .own 65 11)] [(11, some (.row 65 z0))])) | _ => fun _ => none
noncomputable def code_27 : Code := (Tryz.f27.body).getD .skip
noncomputable def E_z3z (g : C_z3z) : Env A := mkE [(47, SS_z70z g.z70z), (50, SS_z69z g.z69z), (52, SS_band_heard g.band_heard), (77, SS_z30z g.z30z), (79, SS_strconv_Itoa g.strconv_Itoa)] [(14, [3]), (39, [0, 1]), (44, [2]), (47, [4]), (55, [7]), (56, [8]), (73, [10]), (92, [13]), (93, [14])] [(11, ⟨[0, 13, 14, 15, 49, 50], [(15, 3, 5)], [1, 3], [(3, 0, 3, 6)], [], [], []⟩), (16, ⟨[0, 14, 15, 58, 59, 60], [], [1, 3, 5], [(3, 0, 3, 9)], [], [], []⟩), (23, ⟨[0, 14, 19, 74, 75, 76], [(19, 65, 11)], [3, 5], [(3, 0, 3, 12)], [], [], []⟩)] [(11, ⟨[0, 13, 14, 15], [], [1, 3, 5, 6], [], [], [], []⟩), (16, ⟨[0, 14, 15], [], [3, 5, 9], [], [], [], []⟩), (23, ⟨[19], [], [11], [], [], [], []⟩)] [(11, pieceOf sh_z3z_L11 (LP_z3z_L11 g g.N)), (16, pieceOf sh_z3z_L16 (LP_z3z_L16 g g.N)), (23, pieceOf sh_z3z_L23 (LP_z3z_L23 g g.N))] [] [] [] [(77, 0)] []
theorem ct_z3z [Fuel] : NatTab (E_z3z I_z3z).C := ct_of (P := Tryz.prog) (T := T) (.cons ok_z70z (.cons ok_z69z (.cons ok_band_heard (.cons ok_z30z (.cons ok_strconv_Itoa .nil))))) (by kernel_rfl)
noncomputable def cb_z3z_L11 : Code := sub [1, 1, 1, 1, 1, 1, 0, 1, 0, 0] code_27
theorem s_z3z_L11 (g : C_z3z) (n : Nat) : StepOk (E_z3z g) g.N cb_z3z_L11 sh_z3z_L11 (LP_z3z_L11 g) n := by intro ps; unfold LP_z3z_L11; split; exact .inr fun R K => (by kernel_rfl); exact .inl fun R K => rfl
theorem lf_z3z_L11 [Fuel] : LoopFine (E_z3z I_z3z) NN cb_z3z_L11 := fine_loop sh_z3z_L11 (LP_z3z_L11 I_z3z) (by kernel_rfl) ct_z3z (cuts0 (fun _ => rfl) (by kernel_rfl)) (fun ps R K => by unfold LP_z3z_L11; split <;> (try unfold z3z_L11) <;> rfl) (s_z3z_L11 I_z3z)
noncomputable def cb_z3z_L16 : Code := sub [1, 1, 1, 1, 1, 1, 1, 0, 1, 0, 0] code_27
theorem s_z3z_L16 (g : C_z3z) (n : Nat) : StepOk (E_z3z g) g.N cb_z3z_L16 sh_z3z_L16 (LP_z3z_L16 g) n := by intro ps; unfold LP_z3z_L16; split; exact .inr fun R K => (by kernel_rfl); exact .inl fun R K => rfl
theorem lf_z3z_L16 [Fuel] : LoopFine (E_z3z I_z3z) NN cb_z3z_L16 := fine_loop sh_z3z_L16 (LP_z3z_L16 I_z3z) (by kernel_rfl) ct_z3z (cuts0 (fun _ => rfl) (by kernel_rfl)) (fun ps R K => by unfold LP_z3z_L16; split <;> (try unfold z3z_L16) <;> rfl) (s_z3z_L16 I_z3z)
noncomputable def cb_z3z_L23 : Code := sub [1, 1, 1, 1, 1, 1, 1, 1, 1, 1, 0, 1, 0, 0] code_27
theorem s_z3z_L23 (g : C_z3z) (n : Nat) : StepOk (E_z3z g) g.N cb_z3z_L23 sh_z3z_L23 (LP_z3z_L23 g) n := by intro ps; unfold LP_z3z_L23; split; exact .inr fun R K => (by kernel_rfl); exact .inl fun R K => rfl
theorem lf_z3z_L23 [Fuel] : LoopFine (E_z3z I_z3z) NN cb_z3z_L23 := fine_loop sh_z3z_L23 (LP_z3z_L23 I_z3z) (by kernel_rfl) ct_z3z (cuts0 (fun _ => rfl) (by kernel_rfl)) (fun ps R K => by unfold LP_z3z_L23; split <;> (try unfold z3z_L23) <;> rfl) (s_z3z_L23 I_z3z)
theorem sm_z3z (g : C_z3z) : Same (SS_z3z (@z3z_ g)) (abody (E_z3z g) Tryz.f27 code_27 15 [] [.arr 65, .asis] g.N) := by intro args; unfold SS_z3z; split; exact .inr fun R k => (by kernel_rfl); exact .inl fun R k => rfl
theorem ok_z3z [Fuel] : Ok 27 (SS_z3z (@z3z _)) := okF_of std (.cons ok_z70z (.cons ok_z69z (.cons ok_band_heard (.cons ok_z30z (.cons ok_strconv_Itoa .nil))))) ⟨rfl, rfl, by kernel_rfl, rfl, rfl, rfl⟩ (sm_z3z I_z3z) (cutsL (fun _ => rfl) (.cons lf_z3z_L11 (.cons lf_z3z_L16 (.cons lf_z3z_L23 .nil))) (by kernel_rfl)) Tryz.func27 (by kernel_rfl) (by kernel_rfl)
abbrev T_Q_in : Type 1 := Int → Int → Int → {R : Type} → (Bool → Option R) → Option R
def Q_in_ (g : Nat) (a1 a2 a3 : Int) {R : Type} (k0 : Bool → Option R) : Option R :=
 (bif (decide (a2 ≤ a1)) then k0 (decide (a1 ≤ a3)) else k0 false)
noncomputable def Q_in [Fuel] : T_Q_in := @Q_in_ NN
def SS_Q_in (g : T_Q_in) : Spec A := fun args => match args with | [.d (.int .i64 a1), .d (.int .i64 a2), .d (.int .i64 a3)] => fun k => g a1 a2 a3 (fun z0 => k (.d (.bool z0)) [.undef, .undef, .undef]) | _ => fun _ => none
noncomputable def code_57 : Code := (Tryz.f57.body).getD .skip
noncomputable def E_Q_in (g : Nat) : Env A := mkE [] [] [] [] [] [] [] [] [] []
theorem sm_Q_in (g : Nat) : Same (SS_Q_in (@Q_in_ g)) (abody (E_Q_in g) Tryz.f57 code_57 0 [] [.asis] g) := by intro args; unfold SS_Q_in; split; exact .inr fun R k => (by kernel_rfl); exact .inl fun R k => rfl
theorem ok_Q_in [Fuel] : Ok 57 (SS_Q_in (@Q_in _)) := okF_of std .nil ⟨rfl, rfl, by kernel_rfl, rfl, rfl, rfl⟩ (sm_Q_in NN) (cuts0 (fun _ => rfl) (by kernel_rfl)) Tryz.func57 (by kernel_rfl) (by kernel_rfl)
abbrev T_Q_Moment : Type 1 := Int → {R : Type} → (Bool → Option R) → Option R
structure C_Q_Moment where
 N : Nat
 Q_in : T_Q_in
def Q_Moment_ (g : C_Q_Moment) (a1 : Int) {R : Type} (k0 : Bool → Option R) : Option R :=
 (g.Q_in a1 0 345686399999 (fun r2 => k0 r2))
noncomputable def I_Q_Moment [Fuel] : C_Q_Moment := ⟨NN, @Q_in _⟩
noncomputable def Q_Moment [Fuel] : T_Q_Moment := @Q_Moment_ I_Q_Moment
def SS_Q_Moment (g : T_Q_Moment) : Spec A := fun args => match args with | [.d (.int .i64 a1)] => fun k => g a1 (fun z0 => k (.d (.bool z0)) [.undef]) | _ => fun _ => none
noncomputable def code_59 : Code := (Tryz.f59.body).getD .skip
noncomputable def E_Q_Moment (g : C_Q_Moment) : Env A := mkE [(57, SS_Q_in g.Q_in)] [] [] [] [] [] [] [] [] []
theorem sm_Q_Moment (g : C_Q_Moment) : Same (SS_Q_Moment (@Q_Moment_ g)) (abody (E_Q_Moment g) Tryz.f59 code_59 0 [] [.asis] g.N) := by intro args; unfold SS_Q_Moment; split; exact .inr fun R k => (by kernel_rfl); exact .inl fun R k => rfl
theorem ok_Q_Moment [Fuel] : Ok 59 (SS_Q_Moment (@Q_Moment _)) := okF_of std (.cons ok_Q_in .nil) ⟨rfl, rfl, by kernel_rfl, rfl, rfl, rfl⟩ (sm_Q_Moment I_Q_Moment) (cuts0 (fun _ => rfl) (by kernel_rfl)) Tryz.func59 (by kernel_rfl) (by kernel_rfl)
abbrev T_R_in : Type 1 := Int → Int → Int → {R : Type} → (Bool → Option R) → Option R
def R_in_ (g : Nat) (a1 a2 a3 : Int) {R : Type} (k0 : Bool → Option R) : Option R :=
 (bif (decide (a2 ≤ a1)) then k0 (decide (a1 ≤ a3)) else k0 false)
noncomputable def R_in [Fuel] : T_R_in := @R_in_ NN
def SS_R_in (g : T_R_in) : Spec A := fun args => match args with | [.d (.int .i64 a1), .d (.int .i64 a2), .d (.int .i64 a3)] => fun k => g a1 a2 a3 (fun z0 => k (.d (.bool z0)) [.undef, .undef, .undef]) | _ => fun _ => none
noncomputable def code_182 : Code := (Tryz.f182.body).getD .skip
noncomputable def E_R_in (g : Nat) : Env A := mkE [] [] [] [] [] [] [] [] [] []
theorem sm_R_in (g : Nat) : Same (SS_R_in (@R_in_ g)) (abody (E_R_in g) Tryz.f182 code_182 0 [] [.asis] g) := by intro args; unfold SS_R_in; split; exact .inr fun R k => (by kernel_rfl); exact .inl fun R k => rfl
theorem ok_R_in [Fuel] : Ok 182 (SS_R_in (@R_in _)) := okF_of std .nil ⟨rfl, rfl, by kernel_rfl, rfl, rfl, rfl⟩ (sm_R_in NN) (cuts0 (fun _ => rfl) (by kernel_rfl)) Tryz.func182 (by kernel_rfl) (by kernel_rfl)
abbrev T_strings_ContainsAny : Type 1 := List UInt8 → List UInt8 → {R : Type} → (Bool → Option R) → Option R
def strings_ContainsAny [Fuel] : T_strings_ContainsAny := @X_cany
def SS_strings_ContainsAny (g : T_strings_ContainsAny) : Spec A := SSX_cany g
theorem ok_strings_ContainsAny [Fuel] : Ok 183 (SS_strings_ContainsAny (@strings_ContainsAny _)) := ⟨ssx_cany_sound (cany_sound rfl (fun s cs w h1 h2 h3 h4 => Any.strings_ContainsAny_laid Tryz.lays150 (by kernel_rfl) s cs w h1 h2 h3 h4)), ssx_cany_nat, enters_of (fn := Tryz.f183) Tryz.func183 (by kernel_rfl) (by kernel_rfl)⟩
abbrev T_R_plain : Type 1 := List UInt8 → Int → Int → {R : Type} → (Bool → Option R) → Option R
structure C_R_plain where
 N : Nat
 strings_Trim : T_strings_Trim
 R_in : T_R_in
 strings_ContainsAny : T_strings_ContainsAny
def R_plain_ (g : C_R_plain) (a1 : List UInt8) (a2 a3 : Int) {R : Type} (k0 : Bool → Option R) : Option R :=
 (g.R_in (a1.length : Int) a2 a3 (fun r4 => (bif r4 then (g.strings_Trim a1 [97, 98, 99, 100, 101, 102, 103, 104, 105, 106, 107, 108, 109, 110, 111, 112, 113, 114, 115, 116, 117, 118, 119, 120, 121, 122, 48, 49, 50, 51, 52, 53, 54, 55, 56, 57] (fun r5 => (bif (r5 == []) then (g.strings_ContainsAny a1 [97, 98, 99, 100, 101, 102, 103, 104, 105, 106, 107, 108, 109, 110, 111, 112, 113, 114, 115, 116, 117, 118, 119, 120, 121, 122] (fun r6 => k0 r6)) else k0 false))) else k0 false)))
noncomputable def I_R_plain [Fuel] : C_R_plain := ⟨NN, @strings_Trim _, @R_in _, @strings_ContainsAny _⟩
noncomputable def R_plain [Fuel] : T_R_plain := @R_plain_ I_R_plain
def SS_R_plain (g : T_R_plain) : Spec A := fun args => match args with | [.d (.str a1), .d (.int .i64 a2), .d (.int .i64 a3)] => fun k => g a1 a2 a3 (fun z0 => k (.d (.bool z0)) [.undef, .undef, .undef]) | _ => fun _ => none
noncomputable def code_181 : Code := (Tryz.f181.body).getD .skip
noncomputable def E_R_plain (g : C_R_plain) : Env A := mkE [(151, SS_strings_Trim g.strings_Trim), (182, SS_R_in g.R_in), (183, SS_strings_ContainsAny g.strings_ContainsAny)] [] [] [] [] [] [] [] [] []
theorem sm_R_plain (g : C_R_plain) : Same (SS_R_plain (@R_plain_ g)) (abody (E_R_plain g) Tryz.f181 code_181 0 [] [.asis] g.N) := by intro args; unfold SS_R_plain; split; exact .inr fun R k => (by kernel_rfl); exact .inl fun R k => rfl
theorem ok_R_plain [Fuel] : Ok 181 (SS_R_plain (@R_plain _)) := okF_of std (.cons ok_strings_Trim (.cons ok_R_in (.cons ok_strings_ContainsAny .nil))) ⟨rfl, rfl, by kernel_rfl, rfl, rfl, rfl⟩ (sm_R_plain I_R_plain) (cuts0 (fun _ => rfl) (by kernel_rfl)) Tryz.func181 (by kernel_rfl) (by kernel_rfl)
abbrev T_R_baseAt : Type 1 := List UInt8 → {R : Type} → (Int → Option R) → Option R
structure C_R_baseAt where
 N : Nat
 z21z : T_z21z
 R_plain : T_R_plain
 R_in : T_R_in
 strings_ContainsAny : T_strings_ContainsAny
def R_baseAt_ (g : C_R_baseAt) (a1 : List UInt8) {R : Type} (k0 : Int → Option R) : Option R :=
 (g.z21z a1 [48, 49, 50, 51, 52, 53, 54, 55, 56, 57] (fun r2 => (g.R_plain a1 3 10 (fun r3 => (bif (!r3) then k0 (-1) else (g.R_in r2 1 3 (fun r4 => (bif (!r4) then k0 (-1) else (g.R_in (w64 ((w64 ((a1.length : Int) - 1)) - r2)) 1 4 (fun r5 => (bif (!r5) then k0 (-1) else (bif (decide (0 ≤ r2) && decide (r2 ≤ (a1.length : Int))) then (g.strings_ContainsAny (a1.take (r2 : Int).toNat) [97, 98, 99, 100, 101, 102, 103, 104, 105, 106, 107, 108, 109, 110, 111, 112, 113, 114, 115, 116, 117, 118, 119, 120, 121, 122] (fun r6 => (bif (!r6) then k0 (-1) else k0 r2))) else none))))))))))))
noncomputable def I_R_baseAt [Fuel] : C_R_baseAt := ⟨NN, @z21z _, @R_plain _, @R_in _, @strings_ContainsAny _⟩
noncomputable def R_baseAt [Fuel] : T_R_baseAt := @R_baseAt_ I_R_baseAt
def SS_R_baseAt (g : T_R_baseAt) : Spec A := fun args => match args with | [.d (.str a1)] => fun k => g a1 (fun z0 => k (.d (.int .i64 z0)) [.undef]) | _ => fun _ => none
noncomputable def code_145 : Code := (Tryz.f145.body).getD .skip
noncomputable def E_R_baseAt (g : C_R_baseAt) : Env A := mkE [(180, SS_z21z g.z21z), (181, SS_R_plain g.R_plain), (182, SS_R_in g.R_in), (183, SS_strings_ContainsAny g.strings_ContainsAny)] [] [] [] [] [] [] [] [] []
theorem sm_R_baseAt (g : C_R_baseAt) : Same (SS_R_baseAt (@R_baseAt_ g)) (abody (E_R_baseAt g) Tryz.f145 code_145 0 [] [.asis] g.N) := by intro args; unfold SS_R_baseAt; split; exact .inr fun R k => (by kernel_rfl); exact .inl fun R k => rfl
theorem ok_R_baseAt [Fuel] : Ok 145 (SS_R_baseAt (@R_baseAt _)) := okF_of std (.cons ok_z21z (.cons ok_R_plain (.cons ok_R_in (.cons ok_strings_ContainsAny .nil)))) ⟨rfl, rfl, by kernel_rfl, rfl, rfl, rfl⟩ (sm_R_baseAt I_R_baseAt) (cuts0 (fun _ => rfl) (by kernel_rfl)) Tryz.func145 (by kernel_rfl) (by kernel_rfl)
end Go.Am
