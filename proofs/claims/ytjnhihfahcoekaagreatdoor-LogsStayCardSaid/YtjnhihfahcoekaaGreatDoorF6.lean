/- The functions of the program as Lean functions, each shown to be what the code computes, part 6. No condition: lemmas for the claim. -/
import Derived.Test.YtjnhihfahcoekaaGreatDoorF0
import Derived.Test.YtjnhihfahcoekaaGreatDoorFSh
import Derived.Test.YtjnhihfahcoekaaGreatDoorF1
import Derived.Test.YtjnhihfahcoekaaGreatDoorF4
import Derived.Test.YtjnhihfahcoekaaGreatDoorF5
set_option linter.unusedVariables false
set_option maxRecDepth 100000
namespace Go.Am
open Go Go.Proofs
abbrev T_z2z : Type 1 := List G_Contact → Int → {R : Type} → (List G_Contact → Option R) → Option R
structure C_z2z where
 N : Nat
 z3z : T_z3z
def z2z_L2 (g : C_z2z) : Nat → Int → Int → Int → Int → List G_Contact → {R : Type} → (Int → Int → Int → List G_Contact → Option R) → Option R
 | 0, _, _, _, _, _, _, _ => none
 | n + 1, v3, v4, v5, v6, v7, _, e0 => (bif (decide (v6 ≤ v3)) then (g.z3z v7 v5 v6 (fun r9 => z2z_L2 g n v3 v4 v6 (w64 (v6 + v4)) r9 e0)) else e0 v3 v4 v5 v7)
def z2z_L9 (g : C_z2z) : Nat → Int → Int → Int → Int → List G_Contact → {R : Type} → (Int → Int → Int → List G_Contact → Option R) → Option R
 | 0, _, _, _, _, _, _, _ => none
 | n + 1, v27, v28, v29, v30, v31, _, e0 => (bif (decide (v30 ≤ v27)) then none else e0 v27 v28 v29 v31)
def z2z_L7 (g : C_z2z) : Nat → Int → Int → List G_Contact → {R : Type} → (List G_Contact → Option R) → Option R
 | 0, _, _, _, _, _ => none
 | n + 1, v15, v16, v17, _, e0 => (bif (decide (v16 < v15)) then (z2z_L9 g g.N v15 v16 0 (w64 (2 * v16)) v17 (fun e32 e33 e34 e35 => (bif (decide ((w64 (e34 + e33)) < e32)) then none else z2z_L7 g n e32 (w64 (e33 * 2)) e35 e0))) else e0 v17)
def z2z_ (g : C_z2z) (a1 : List G_Contact) (a2 : Int) {R : Type} (k0 : List G_Contact → Option R) : Option R :=
 (z2z_L2 g g.N a2 20 0 20 a1 (fun e10 e11 e12 e13 => (g.z3z e13 e12 e10 (fun r14 => (z2z_L7 g g.N e10 e11 r14 (fun e36 => k0 e36))))))
noncomputable def I_z2z [Fuel] : C_z2z := ⟨NN, @z3z _⟩
noncomputable def z2z [Fuel] : T_z2z := @z2z_ I_z2z
def SS_z2z (g : T_z2z) : Spec A := fun args => match args with | [.arr 35 a1, .d (.int .i64 a2), .fn 25 []] => fun k => g a1 a2 (fun z0 => k (.tup []) [.arr 35 z0, .undef, .fn 25 []]) | _ => fun _ => none
def sh_z2z_L2 : SSt := mkSh 63 1 [(0, .own 35 0), (1, .int .i64), (2, .fn 25 []), (6, .int .i64), (7, .int .i64), (8, .int .i64)] [(0, .row 35)]
def LP_z2z_L2 (g : C_z2z) (n : Nat) : LPT A := fun ps => match ps with | [.d (.int .i64 p1), .d (.int .i64 p2), .d (.int .i64 p3), .d (.int .i64 p4), .d (.sl 35 p5)] => fun K => z2z_L2 g n p1 p2 p3 p4 p5 (fun z0 z1 z2 z3 => K (.exit 0) (mkSt 63 1 [(0, .own 35 0), (1, .d (.int .i64 z0)), (2, .fn 25 []), (6, .d (.int .i64 z1)), (7, .d (.int .i64 z2))] [(0, some (.row 35 z3))])) | _ => fun _ => none
def sh_z2z_L9 : SSt := mkSh 63 1 [(0, .own 35 0), (1, .int .i64), (2, .fn 25 []), (6, .int .i64), (7, .int .i64), (8, .int .i64)] [(0, .row 35)]
def LP_z2z_L9 (g : C_z2z) (n : Nat) : LPT A := fun ps => match ps with | [.d (.int .i64 p1), .d (.int .i64 p2), .d (.int .i64 p3), .d (.int .i64 p4), .d (.sl 35 p5)] => fun K => z2z_L9 g n p1 p2 p3 p4 p5 (fun z0 z1 z2 z3 => K (.exit 4) (mkSt 63 1 [(0, .own 35 0), (1, .d (.int .i64 z0)), (2, .fn 25 []), (6, .d (.int .i64 z1)), (7, .d (.int .i64 z2))] [(0, some (.row 35 z3))])) | _ => fun _ => none
def sh_z2z_L7 : SSt := mkSh 63 1 [(0, .own 35 0), (1, .int .i64), (2, .fn 25 []), (6, .int .i64)] [(0, .row 35)]
def LP_z2z_L7 (g : C_z2z) (n : Nat) : LPT A := fun ps => match ps with | [.d (.int .i64 p1), .d (.int .i64 p2), .d (.sl 35 p3)] => fun K => z2z_L7 g n p1 p2 p3 (fun z0 => K (.exit 2) (mkSt 63 1 [(0, .own 35 0), (2, .fn 25 [])] [(0, some (.row 35 z0))])) | _ => fun _ => none
noncomputable def E_z2z (g : C_z2z) : Env A := mkE [(74, SS_z3z g.z3z)] [] [(2, ⟨[0, 1, 2, 6, 7, 8], [], [0], [], [], []⟩), (9, ⟨[0, 1, 2, 6, 7, 8], [], [0], [], [], []⟩), (7, ⟨[0, 1, 2, 6], [], [0], [], [], []⟩)] [(2, ⟨[0, 1, 2, 6, 7], [], [0], [], [], []⟩), (9, ⟨[0, 1, 2, 6, 7], [], [0], [], [], []⟩), (7, ⟨[0, 2], [], [0], [], [], []⟩)] [(2, pieceOf sh_z2z_L2 (LP_z2z_L2 g g.N)), (9, pieceOf sh_z2z_L9 (LP_z2z_L9 g g.N)), (7, pieceOf sh_z2z_L7 (LP_z2z_L7 g g.N))] [] [] [] [(74, 0)] [0, 2]
theorem ct_z2z [Fuel] : NatTab (E_z2z I_z2z).C := ct_of (P := Tryz.prog) (T := T) (.cons ok_z3z .nil) (by kernel_rfl)
noncomputable def cb_z2z_L2 : Code := sub [1, 1, 0, 0, 0] code_48
theorem s_z2z_L2 (g : C_z2z) (n : Nat) : StepOk (E_z2z g) g.N cb_z2z_L2 sh_z2z_L2 (LP_z2z_L2 g) n := by intro ps; unfold LP_z2z_L2; split; exact .inr fun R K => (by kernel_rfl); exact .inl fun R K => rfl
theorem lf_z2z_L2 [Fuel] : LoopFine (E_z2z I_z2z) NN cb_z2z_L2 := fine_loop sh_z2z_L2 (LP_z2z_L2 I_z2z) (by kernel_rfl) ct_z2z (cuts0 (fun _ => rfl) (by kernel_rfl)) (fun ps R K => by unfold LP_z2z_L2; split <;> (try unfold z2z_L2) <;> rfl) (s_z2z_L2 I_z2z)
noncomputable def cb_z2z_L9 : Code := sub [1, 1, 1, 1, 0, 0, 1, 0, 1, 0, 0, 0] code_48
theorem s_z2z_L9 (g : C_z2z) (n : Nat) : StepOk (E_z2z g) g.N cb_z2z_L9 sh_z2z_L9 (LP_z2z_L9 g) n := by intro ps; unfold LP_z2z_L9; split; exact .inr fun R K => (by kernel_rfl); exact .inl fun R K => rfl
theorem lf_z2z_L9 [Fuel] : LoopFine (E_z2z I_z2z) NN cb_z2z_L9 := fine_loop sh_z2z_L9 (LP_z2z_L9 I_z2z) (by kernel_rfl) ct_z2z (cuts0 (fun _ => rfl) (by kernel_rfl)) (fun ps R K => by unfold LP_z2z_L9; split <;> (try unfold z2z_L9) <;> rfl) (s_z2z_L9 I_z2z)
noncomputable def cb_z2z_L7 : Code := sub [1, 1, 1, 1, 0, 0] code_48
theorem s_z2z_L7 (g : C_z2z) (n : Nat) : StepOk (E_z2z g) g.N cb_z2z_L7 sh_z2z_L7 (LP_z2z_L7 g) n := by intro ps; unfold LP_z2z_L7; split; exact .inr fun R K => (by kernel_rfl); exact .inl fun R K => rfl
theorem lf_z2z_L7 [Fuel] : LoopFine (E_z2z I_z2z) NN cb_z2z_L7 := fine_loop sh_z2z_L7 (LP_z2z_L7 I_z2z) (by kernel_rfl) ct_z2z (cutsL (fun _ => rfl) (.cons lf_z2z_L9 .nil) (by kernel_rfl)) (fun ps R K => by unfold LP_z2z_L7; split <;> (try unfold z2z_L7) <;> rfl) (s_z2z_L7 I_z2z)
theorem sm_z2z (g : C_z2z) : Same (SS_z2z (@z2z_ g)) (abody (E_z2z g) Tryz.f48 code_48 1 [0] [] g.N) := by intro args; unfold SS_z2z; split; exact .inr fun R k => (by kernel_rfl); exact .inl fun R k => rfl
theorem ok_z2z [Fuel] : Ok 48 (SS_z2z (@z2z _)) := okF_of std (.cons ok_z3z .nil) ⟨rfl, rfl, by kernel_rfl, rfl, rfl, rfl⟩ (sm_z2z I_z2z) (cutsL (fun _ => rfl) (.cons lf_z2z_L2 (.cons lf_z2z_L9 (.cons lf_z2z_L7 .nil))) (by kernel_rfl)) Tryz.func48 (by kernel_rfl) (by kernel_rfl)
abbrev T_z25z : Type 1 := List G_Contact → {R : Type} → (List G_Contact → Option R) → Option R
structure C_z25z where
 N : Nat
 z2z : T_z2z
def z25z_ (g : C_z25z) (a1 : List G_Contact) {R : Type} (k0 : List G_Contact → Option R) : Option R :=
 (g.z2z a1 (a1.length : Int) (fun r2 => k0 r2))
noncomputable def I_z25z [Fuel] : C_z25z := ⟨NN, @z2z _⟩
noncomputable def z25z [Fuel] : T_z25z := @z25z_ I_z25z
def SS_z25z (g : T_z25z) : Spec A := fun args => match args with | [.arr 35 a1, .fn 25 []] => fun k => g a1 (fun z0 => k (.tup []) [.arr 35 z0, .fn 25 []]) | _ => fun _ => none
noncomputable def E_z25z (g : C_z25z) : Env A := mkE [(48, SS_z2z g.z2z)] [] [] [] [] [] [] [] [(48, 0)] [0, 1]
theorem sm_z25z (g : C_z25z) : Same (SS_z25z (@z25z_ g)) (abody (E_z25z g) Tryz.f24 code_24 1 [0] [] g.N) := by intro args; unfold SS_z25z; split; exact .inr fun R k => (by kernel_rfl); exact .inl fun R k => rfl
theorem ok_z25z [Fuel] : Ok 24 (SS_z25z (@z25z _)) := okF_of std (.cons ok_z2z .nil) ⟨rfl, rfl, by kernel_rfl, rfl, rfl, rfl⟩ (sm_z25z I_z25z) (cuts0 (fun _ => rfl) (by kernel_rfl)) Tryz.func24 (by kernel_rfl) (by kernel_rfl)
abbrev T_z16z : Type 1 := List G_Contact → {R : Type} → (List G_Contact → Option R) → Option R
def z16z_L9 (g : Nat) : Nat → Int → Int → Int → Int → List G_Contact → {R : Type} → (Int → List G_Contact → Option R) → Option R
 | 0, _, _, _, _, _, _, _ => none
 | n + 1, v23, v24, v25, v26, v27, _, e0 => (bif (decide (v26 < ((v25 - v24).toNat : Int))) then (bif (decide (0 ≤ v26) && (decide (v26 < v25 - v24) && decide (v24 + v26 < (v27.length : Int)))) then (at_ v27 (v24 + v26) fun x32 => (bif (decide (0 ≤ (w64 (v26 - 1))) && (decide ((w64 (v26 - 1)) < v25 - v24) && decide (v24 + (w64 (v26 - 1)) < (v27.length : Int)))) then (at_ v27 (v24 + (w64 (v26 - 1))) fun x33 => (bif (!(eq_G_Contact x32 x33)) then (bif (decide (0 ≤ v26) && (decide (v26 < v25 - v24) && decide (v24 + v26 < (v27.length : Int)))) then (at_ v27 (v24 + v26) fun x34 => (inr v27 v23 (at_ v27 v23 fun x35 => z16z_L9 g n (w64 (v23 + 1)) v24 v25 (w64 (v26 + 1)) (set_ v27 v23 x34) e0))) else none) else z16z_L9 g n v23 v24 v25 (w64 (v26 + 1)) v27 e0)) else none)) else none) else e0 v23 v27)
def z16z_L4 (g : Nat) : Nat → Int → List G_Contact → {R : Type} → (List G_Contact → Option R) → (List G_Contact → Option R) → Option R
 | 0, _, _, _, _, _ => none
 | n + 1, v2, v3, _, e0, e1 => (bif (decide (v2 < (v3.length : Int))) then (inr v3 v2 (at_ v3 v2 fun x21 => (inr v3 (w64 (v2 - 1)) (at_ v3 (w64 (v2 - 1)) fun x22 => (bif (eq_G_Contact x21 x22) then (bif (decide (0 < v3.length) && (decide (0 ≤ v2) && decide (v2 ≤ (v3.length : Int)))) then (z16z_L9 g g v2 v2 (v3.length : Int) 1 v3 (fun e36 e37 => (bif (decide (0 < e37.length) && (decide (0 ≤ e36) && decide (e36 ≤ (e37.length : Int)))) then (bif (decide (0 ≤ e36) && (decide (e36 ≤ (e37.length : Int)) && decide (((e37.length : Int)).toNat ≤ e37.length))) then (bif (decide (0 ≤ e36) && decide (e36 ≤ ((e37.take (e36).toNat ++ (List.replicate ((e37.length : Int) - e36).toNat (⟨0, 0, [], [], 0, 0, [], []⟩ : G_Contact) ++ e37.drop ((e37.length : Int)).toNat)).length : Int))) then e0 ((e37.take (e36).toNat ++ (List.replicate ((e37.length : Int) - e36).toNat (⟨0, 0, [], [], 0, 0, [], []⟩ : G_Contact) ++ e37.drop ((e37.length : Int)).toNat)).take (e36 : Int).toNat) else none) else none) else none))) else none) else z16z_L4 g n (w64 (v2 + 1)) v3 e0 e1))))) else e1 v3)
def z16z_ (g : Nat) (a1 : List G_Contact) {R : Type} (k0 : List G_Contact → Option R) : Option R :=
 (bif (decide ((a1.length : Int) < 2)) then k0 a1 else (z16z_L4 g g 1 a1 (fun e38 => k0 e38) (fun e39 => k0 e39)))
noncomputable def z16z [Fuel] : T_z16z := @z16z_ NN
def SS_z16z (g : T_z16z) : Spec A := fun args => match args with | [.arr 35 a1] => fun k => g a1 (fun z0 => k (.arr 35 z0) [.undef]) | _ => fun _ => none
def sh_z16z_L9 : SSt := mkSh 61 6 [(0, .own 35 0), (3, .int .i64), (4, .vw 35 0), (5, .int .i64)] [(0, .row 35)]
def LP_z16z_L9 (g : Nat) (n : Nat) : LPT A := fun ps => match ps with | [.d (.int .i64 p1), .z p2, .z p3, .d (.int .i64 p4), .d (.sl 35 p5)] => fun K => z16z_L9 g n p1 p2 p3 p4 p5 (fun z0 z1 => K (.exit 2) (mkSt 61 6 [(0, .own 35 0), (3, .d (.int .i64 z0))] [(0, some (.row 35 z1))])) | _ => fun _ => none
def sh_z16z_L4 : SSt := mkSh 61 6 [(0, .own 35 0), (3, .int .i64)] [(0, .row 35)]
def LP_z16z_L4 (g : Nat) (n : Nat) : LPT A := fun ps => match ps with | [.d (.int .i64 p1), .d (.sl 35 p2)] => fun K => z16z_L4 g n p1 p2 (fun z0 => K .ret (mkSt 61 6 [(0, .own 35 0), (2, .own 35 5)] [(5, some (.row 35 z0))])) (fun z0 => K (.exit 0) (mkSt 61 6 [(0, .own 35 0)] [(0, some (.row 35 z0))])) | _ => fun _ => none
noncomputable def code_26 : Code := (Tryz.f26.body).getD .skip
noncomputable def E_z16z (g : Nat) : Env A := mkE [] [(28, [1, 2]), (56, [3, 4]), (59, [5])] [(9, ⟨[0, 3, 4, 5], [], [0], [], [], []⟩), (4, ⟨[0, 3], [], [0], [], [], []⟩)] [(9, ⟨[0, 3], [], [0], [], [], []⟩), (4, ⟨[0, 2], [], [0, 5], [], [], []⟩)] [(9, pieceOf sh_z16z_L9 (LP_z16z_L9 g g)), (4, pieceOf sh_z16z_L4 (LP_z16z_L4 g g))] [] [] [] [] []
theorem ct_z16z [Fuel] : NatTab (E_z16z NN).C := ct_of (P := Tryz.prog) (T := T) .nil (by kernel_rfl)
noncomputable def cb_z16z_L9 : Code := sub [1, 1, 0, 1, 0, 0, 1, 0, 0, 1, 0, 1, 0, 1, 0, 0] code_26
theorem s_z16z_L9 (g : Nat) (n : Nat) : StepOk (E_z16z g) g cb_z16z_L9 sh_z16z_L9 (LP_z16z_L9 g) n := by intro ps; unfold LP_z16z_L9; split; exact .inr fun R K => (by kernel_rfl); exact .inl fun R K => rfl
theorem lf_z16z_L9 [Fuel] : LoopFine (E_z16z NN) NN cb_z16z_L9 := fine_loop sh_z16z_L9 (LP_z16z_L9 NN) (by kernel_rfl) ct_z16z (cuts0 (fun _ => rfl) (by kernel_rfl)) (fun ps R K => by unfold LP_z16z_L9; split <;> (try unfold z16z_L9) <;> rfl) (s_z16z_L9 NN)
noncomputable def cb_z16z_L4 : Code := sub [1, 1, 0, 1, 0, 0] code_26
theorem s_z16z_L4 (g : Nat) (n : Nat) : StepOk (E_z16z g) g cb_z16z_L4 sh_z16z_L4 (LP_z16z_L4 g) n := by intro ps; unfold LP_z16z_L4; split; exact .inr fun R K => (by kernel_rfl); exact .inl fun R K => rfl
theorem lf_z16z_L4 [Fuel] : LoopFine (E_z16z NN) NN cb_z16z_L4 := fine_loop sh_z16z_L4 (LP_z16z_L4 NN) (by kernel_rfl) ct_z16z (cutsL (fun _ => rfl) (.cons lf_z16z_L9 .nil) (by kernel_rfl)) (fun ps R K => by unfold LP_z16z_L4; split <;> (try unfold z16z_L4) <;> rfl) (s_z16z_L4 NN)
theorem sm_z16z (g : Nat) : Same (SS_z16z (@z16z_ g)) (abody (E_z16z g) Tryz.f26 code_26 6 [0] [.arr 35] g) := by intro args; unfold SS_z16z; split; exact .inr fun R k => (by kernel_rfl); exact .inl fun R k => rfl
theorem ok_z16z [Fuel] : Ok 26 (SS_z16z (@z16z _)) := okF_of std .nil ⟨rfl, rfl, by kernel_rfl, rfl, rfl, rfl⟩ (sm_z16z NN) (cutsL (fun _ => rfl) (.cons lf_z16z_L9 (.cons lf_z16z_L4 .nil)) (by kernel_rfl)) Tryz.func26 (by kernel_rfl) (by kernel_rfl)
abbrev T_z43z : Type 1 := List G_Contact → {R : Type} → (List G_Contact → Int → Option R) → Option R
structure C_z43z where
 N : Nat
 z69z : T_z69z
 z10z : T_z10z
 z25z : T_z25z
 z6z : T_z6z
 z16z : T_z16z
def z43z_L8 (g : C_z43z) : Nat → Int → List G_Contact → {R : Type} → (Int → List G_Contact → Option R) → (List G_Contact → Option R) → Option R
 | 0, _, _, _, _, _ => none
 | n + 1, v6, v7, _, e0, e1 => (bif (decide (v6 < (v7.length : Int))) then (inr v7 (w64 (v6 - 1)) (at_ v7 (w64 (v6 - 1)) fun x11 => (inr v7 v6 (at_ v7 v6 fun x12 => (g.z6z x11 x12 (fun r13 => (bif (r13 == 0) then e0 13 v7 else z43z_L8 g n (w64 (v6 + 1)) v7 e0 e1))))))) else e1 v7)
def z43z_ (g : C_z43z) (a1 : List G_Contact) {R : Type} (k0 : List G_Contact → Int → Option R) : Option R :=
 (g.z69z a1 (fun r2 => (bif (r2 != 0) then k0 [] r2 else (g.z10z [a1, []] (fun r3 => (g.z25z r3 (fun r4 => (g.z16z r4 (fun r5 => (z43z_L8 g g.N 1 r5 (fun e14 e15 => k0 [] e14) (fun e16 => (bif (decide ((e16.length : Int) > 2000)) then k0 [] 2 else k0 e16 0))))))))))))
noncomputable def I_z43z [Fuel] : C_z43z := ⟨NN, @z69z _, @z10z _, @z25z _, @z6z _, @z16z _⟩
noncomputable def z43z [Fuel] : T_z43z := @z43z_ I_z43z
def SS_z43z (g : T_z43z) : Spec A := fun args => match args with | [.d (.sl 35 a1), .d .nsl] => fun k => g a1 (fun z0 z1 => k (.tup [.arr 35 z0, .d (.int .i64 z1)]) [.undef, .undef]) | _ => fun _ => none
def sh_z43z_L8 : SSt := mkSh 44 3 [(7, .own 35 2), (8, .int .i64)] [(2, .row 35)]
def LP_z43z_L8 (g : C_z43z) (n : Nat) : LPT A := fun ps => match ps with | [.d (.int .i64 p1), .d (.sl 35 p2)] => fun K => z43z_L8 g n p1 p2 (fun z0 z1 => K .ret (mkSt 44 3 [(4, .d .nsl), (5, .d (.int .i64 z0)), (7, .own 35 2)] [(2, some (.row 35 z1))])) (fun z0 => K (.exit 0) (mkSt 44 3 [(7, .own 35 2)] [(2, some (.row 35 z0))])) | _ => fun _ => none
noncomputable def code_6 : Code := (Tryz.f6.body).getD .skip
noncomputable def E_z43z (g : C_z43z) : Env A := mkE [(22, SS_z69z g.z69z), (23, SS_z10z g.z10z), (24, SS_z25z g.z25z), (25, SS_z6z g.z6z), (26, SS_z16z g.z16z)] [(17, [0]), (18, [1]), (22, [2])] [(8, ⟨[7, 8], [], [2], [], [], []⟩)] [(8, ⟨[4, 5, 7], [], [2], [], [], []⟩)] [(8, pieceOf sh_z43z_L8 (LP_z43z_L8 g g.N))] [] [] [] [(24, 0), (26, 0)] []
theorem ct_z43z [Fuel] : NatTab (E_z43z I_z43z).C := ct_of (P := Tryz.prog) (T := T) (.cons ok_z69z (.cons ok_z10z (.cons ok_z25z (.cons ok_z6z (.cons ok_z16z .nil))))) (by kernel_rfl)
noncomputable def cb_z43z_L8 : Code := sub [1, 1, 1, 1, 1, 0, 1, 0, 0] code_6
theorem s_z43z_L8 (g : C_z43z) (n : Nat) : StepOk (E_z43z g) g.N cb_z43z_L8 sh_z43z_L8 (LP_z43z_L8 g) n := by intro ps; unfold LP_z43z_L8; split; exact .inr fun R K => (by kernel_rfl); exact .inl fun R K => rfl
theorem lf_z43z_L8 [Fuel] : LoopFine (E_z43z I_z43z) NN cb_z43z_L8 := fine_loop sh_z43z_L8 (LP_z43z_L8 I_z43z) (by kernel_rfl) ct_z43z (cuts0 (fun _ => rfl) (by kernel_rfl)) (fun ps R K => by unfold LP_z43z_L8; split <;> (try unfold z43z_L8) <;> rfl) (s_z43z_L8 I_z43z)
theorem sm_z43z (g : C_z43z) : Same (SS_z43z (@z43z_ g)) (abody (E_z43z g) Tryz.f6 code_6 3 [] [.arr 35, .asis] g.N) := by intro args; unfold SS_z43z; split; exact .inr fun R k => (by kernel_rfl); exact .inl fun R k => rfl
theorem ok_z43z [Fuel] : Ok 6 (SS_z43z (@z43z _)) := okF_of std (.cons ok_z69z (.cons ok_z10z (.cons ok_z25z (.cons ok_z6z (.cons ok_z16z .nil))))) ⟨rfl, rfl, by kernel_rfl, rfl, rfl, rfl⟩ (sm_z43z I_z43z) (cutsL (fun _ => rfl) (.cons lf_z43z_L8 .nil) (by kernel_rfl)) Tryz.func6 (by kernel_rfl) (by kernel_rfl)
abbrev T_z44z : Type 1 := List G_Contact → {R : Type} → (List G_Contact → Option R) → Option R
def z44z_L2 (g : Nat) : Nat → Int → Int → List G_Contact → G_Contact → {R : Type} → (List G_Contact → Option R) → Option R
 | 0, _, _, _, _, _, _ => none
 | n + 1, v2, v3, v4, v5, _, e0 => (bif (decide (v3 < v2)) then (inr v4 v3 (at_ v4 v3 fun x7 => z44z_L2 g n v2 (w64 (v3 + 1)) (set_ v4 v3 v5) v5 e0)) else e0 v4)
def z44z_ (g : Nat) (a1 : List G_Contact) {R : Type} (k0 : List G_Contact → Option R) : Option R :=
 (z44z_L2 g g (a1.length : Int) 0 a1 (⟨0, 0, [], [], 0, 0, [], []⟩ : G_Contact) (fun e8 => k0 e8))
noncomputable def z44z [Fuel] : T_z44z := @z44z_ NN
def SS_z44z (g : T_z44z) : Spec A := fun args => match args with | [.arr 35 a1] => fun k => g a1 (fun z0 => k (.tup []) [.arr 35 z0]) | _ => fun _ => none
def sh_z44z_L2 : SSt := mkSh 14 2 [(0, .own 35 0), (2, .ptr 1 0), (5, .int .i64), (6, .int .i64)] [(0, .row 35), (1, .box [.int .i64, .int .i64, .str, .str, .int .i64, .int .i64, .str, .str])]
def LP_z44z_L2 (g : Nat) (n : Nat) : LPT A := fun ps => match ps with | [.d (.int .i64 p1), .d (.int .i64 p2), .d (.sl 35 p3), .d (.int .i64 p4), .d (.int .i64 p5), .d (.str p6), .d (.str p7), .d (.int .i64 p8), .d (.int .i64 p9), .d (.str p10), .d (.str p11)] => fun K => z44z_L2 g n p1 p2 p3 ⟨p4, p5, p6, p7, p8, p9, p10, p11⟩ (fun z0 => K (.exit 0) (mkSt 14 2 [(0, .own 35 0)] [(0, some (.row 35 z0))])) | _ => fun _ => none
noncomputable def code_7 : Code := (Tryz.f7.body).getD .skip
noncomputable def E_z44z (g : Nat) : Env A := mkE [] [(2, [1])] [(2, ⟨[0, 2, 5, 6], [], [0, 1], [], [], []⟩)] [(2, ⟨[0], [], [0], [], [], []⟩)] [(2, pieceOf sh_z44z_L2 (LP_z44z_L2 g g))] [] [] [] [] [0]
theorem ct_z44z [Fuel] : NatTab (E_z44z NN).C := ct_of (P := Tryz.prog) (T := T) .nil (by kernel_rfl)
noncomputable def cb_z44z_L2 : Code := sub [1, 1, 0, 0] code_7
theorem s_z44z_L2 (g : Nat) (n : Nat) : StepOk (E_z44z g) g cb_z44z_L2 sh_z44z_L2 (LP_z44z_L2 g) n := by intro ps; unfold LP_z44z_L2; split; exact .inr fun R K => (by kernel_rfl); exact .inl fun R K => rfl
theorem lf_z44z_L2 [Fuel] : LoopFine (E_z44z NN) NN cb_z44z_L2 := fine_loop sh_z44z_L2 (LP_z44z_L2 NN) (by kernel_rfl) ct_z44z (cuts0 (fun _ => rfl) (by kernel_rfl)) (fun ps R K => by unfold LP_z44z_L2; split <;> (try unfold z44z_L2) <;> rfl) (s_z44z_L2 NN)
theorem sm_z44z (g : Nat) : Same (SS_z44z (@z44z_ g)) (abody (E_z44z g) Tryz.f7 code_7 2 [0] [] g) := by intro args; unfold SS_z44z; split; exact .inr fun R k => (by kernel_rfl); exact .inl fun R k => rfl
theorem ok_z44z [Fuel] : Ok 7 (SS_z44z (@z44z _)) := okF_of std .nil ⟨rfl, rfl, by kernel_rfl, rfl, rfl, rfl⟩ (sm_z44z NN) (cutsL (fun _ => rfl) (.cons lf_z44z_L2 .nil) (by kernel_rfl)) Tryz.func7 (by kernel_rfl) (by kernel_rfl)
abbrev T_z70z : Type 1 := List G_Contact → {R : Type} → (List G_Contact → Option R) → Option R
def z70z [Fuel] : T_z70z := @X_clone G_Contact 96
def SS_z70z (g : T_z70z) : Spec A := fun args => match args with | [.d (.sl 35 x1)] => fun k => g x1 (fun z => k (.arr 35 z) [.undef]) | _ => fun _ => none
theorem h1_z70z [Fuel] (xs : List (A 35)) (R : Type) (k : IV A → List (IV A) → Option R) : SS_z70z (@z70z _) [.d (.sl 35 xs)] k = X_clone 96 xs (fun z => k (.arr 35 z) [.undef]) := by kernel_rfl
theorem h2_z70z [Fuel] (args : List (IV A)) (R : Type) (k : IV A → List (IV A) → Option R) (h : ∀ xs : List (A 35), args ≠ [.d (.sl 35 xs)]) : SS_z70z (@z70z _) args k = none := by unfold SS_z70z; split; exact absurd rfl (h _); rfl
theorem ok_z70z [Fuel] : Ok 29 (SS_z70z (@z70z _)) := ⟨clone_fs (clone_sound rfl (tyOk Tryz.prog) (e := 35) (size := 8) (bytes := 96) (ty := 35) (by kernel_rfl) (fun n c w => AnyE.slices_Clone_nil Tryz.clone29 n c w) (fun b off n c news w h1 h2 h3 h4 h5 => AnyE.slices_Clone Tryz.clone29 Tryz.ti35 Tryz.zv35 8 96 (by kernel_rfl) (by kernel_rfl) (by kernel_rfl) (by kernel_rfl) (by kernel_rfl) (by decide) Tryz.sizeOf35 b off n c news w h1 h2 h3 h4 h5)) h1_z70z h2_z70z, clone_na h1_z70z h2_z70z, enters_of (fn := Tryz.f29) Tryz.func29 (by kernel_rfl) (by kernel_rfl)⟩
abbrev T_z51z : Type 1 := List G_Contact → Int → {R : Type} → (List G_Contact → Int → Option R) → Option R
structure C_z51z where
 N : Nat
 z13z : T_z13z
 z45z : T_z45z
 z70z : T_z70z
def z51z_L8 (g : C_z51z) : Nat → Int → Int → Int → List G_Contact → {R : Type} → (List G_Contact → Option R) → Option R
 | 0, _, _, _, _, _, _ => none
 | n + 1, v6, v7, v8, v9, _, e0 => (bif (decide (v8 < v7)) then (inr v9 v8 (at_ v9 v8 fun x11 => z51z_L8 g n v6 v7 (w64 (v8 + 1)) (set_ v9 v8 (⟨x11.f_At, x11.f_Mode, x11.f_Band, x11.f_Call, (w64 (v6 + v8)), x11.f_Heard, x11.f_Gave, x11.f_Got⟩ : G_Contact)) e0)) else e0 v9)
def z51z_ (g : C_z51z) (a1 : List G_Contact) (a2 : Int) {R : Type} (k0 : List G_Contact → Int → Option R) : Option R :=
 (g.z13z a1 (fun r3 => (bif (r3 != 0) then k0 [] r3 else (g.z45z a2 1 99999 (fun r4 => (bif r4 then k0 [] 1 else (bif (decide ((w64 ((w64 (a2 + (a1.length : Int))) - 1)) > 99999)) then k0 [] 1 else (g.z70z a1 (fun r5 => (z51z_L8 g g.N a2 (r5.length : Int) 0 r5 (fun e12 => k0 e12 0)))))))))))
noncomputable def I_z51z [Fuel] : C_z51z := ⟨NN, @z13z _, @z45z _, @z70z _⟩
noncomputable def z51z [Fuel] : T_z51z := @z51z_ I_z51z
def SS_z51z (g : T_z51z) : Spec A := fun args => match args with | [.d (.sl 35 a1), .d (.int .i64 a2)] => fun k => g a1 a2 (fun z0 z1 => k (.tup [.arr 35 z0, .d (.int .i64 z1)]) [.undef, .undef]) | _ => fun _ => none
def sh_z51z_L8 : SSt := mkSh 40 1 [(1, .int .i64), (7, .own 35 0), (27, .int .i64), (28, .int .i64)] [(0, .row 35)]
def LP_z51z_L8 (g : C_z51z) (n : Nat) : LPT A := fun ps => match ps with | [.d (.int .i64 p1), .d (.int .i64 p2), .d (.int .i64 p3), .d (.sl 35 p4)] => fun K => z51z_L8 g n p1 p2 p3 p4 (fun z0 => K (.exit 0) (mkSt 40 1 [(7, .own 35 0)] [(0, some (.row 35 z0))])) | _ => fun _ => none
noncomputable def code_8 : Code := (Tryz.f8.body).getD .skip
noncomputable def E_z51z (g : C_z51z) : Env A := mkE [(27, SS_z13z g.z13z), (28, SS_z45z g.z45z), (29, SS_z70z g.z70z)] [(25, [0])] [(8, ⟨[1, 7, 27, 28], [], [0], [], [], []⟩)] [(8, ⟨[7], [], [0], [], [], []⟩)] [(8, pieceOf sh_z51z_L8 (LP_z51z_L8 g g.N))] [] [] [] [] []
theorem ct_z51z [Fuel] : NatTab (E_z51z I_z51z).C := ct_of (P := Tryz.prog) (T := T) (.cons ok_z13z (.cons ok_z45z (.cons ok_z70z .nil))) (by kernel_rfl)
noncomputable def cb_z51z_L8 : Code := sub [1, 1, 1, 1, 0, 1, 0, 0] code_8
theorem s_z51z_L8 (g : C_z51z) (n : Nat) : StepOk (E_z51z g) g.N cb_z51z_L8 sh_z51z_L8 (LP_z51z_L8 g) n := by intro ps; unfold LP_z51z_L8; split; exact .inr fun R K => (by kernel_rfl); exact .inl fun R K => rfl
theorem lf_z51z_L8 [Fuel] : LoopFine (E_z51z I_z51z) NN cb_z51z_L8 := fine_loop sh_z51z_L8 (LP_z51z_L8 I_z51z) (by kernel_rfl) ct_z51z (cuts0 (fun _ => rfl) (by kernel_rfl)) (fun ps R K => by unfold LP_z51z_L8; split <;> (try unfold z51z_L8) <;> rfl) (s_z51z_L8 I_z51z)
theorem sm_z51z (g : C_z51z) : Same (SS_z51z (@z51z_ g)) (abody (E_z51z g) Tryz.f8 code_8 1 [] [.arr 35, .asis] g.N) := by intro args; unfold SS_z51z; split; exact .inr fun R k => (by kernel_rfl); exact .inl fun R k => rfl
theorem ok_z51z [Fuel] : Ok 8 (SS_z51z (@z51z _)) := okF_of std (.cons ok_z13z (.cons ok_z45z (.cons ok_z70z .nil))) ⟨rfl, rfl, by kernel_rfl, rfl, rfl, rfl⟩ (sm_z51z I_z51z) (cutsL (fun _ => rfl) (.cons lf_z51z_L8 .nil) (by kernel_rfl)) Tryz.func8 (by kernel_rfl) (by kernel_rfl)
abbrev T_z71z : Type 1 := List G_Contact → {R : Type} → (Int → Option R) → Option R
structure C_z71z where
 N : Nat
 z13z : T_z13z
 z54z : T_z54z
def z71z_ (g : C_z71z) (a1 : List G_Contact) {R : Type} (k0 : Int → Option R) : Option R :=
 (g.z54z (fun r2 => (bif (r2 != 0) then k0 r2 else (g.z13z a1 (fun r3 => k0 r3)))))
noncomputable def I_z71z [Fuel] : C_z71z := ⟨NN, @z13z _, @z54z _⟩
noncomputable def z71z [Fuel] : T_z71z := @z71z_ I_z71z
def SS_z71z (g : T_z71z) : Spec A := fun args => match args with | [.d .nsl, .d (.sl 35 a1)] => fun k => g a1 (fun z0 => k (.d (.int .i64 z0)) [.undef, .undef]) | _ => fun _ => none
noncomputable def E_z71z (g : C_z71z) : Env A := mkE [(27, orS p_z13z (SS_z13z g.z13z) (SS_z54z g.z54z))] [] [] [] [] [] [] [] [] []
theorem sm_z71z (g : C_z71z) : Same (SS_z71z (@z71z_ g)) (abody (E_z71z g) Tryz.f22 code_22 0 [] [.asis] g.N) := by intro args; unfold SS_z71z; split; exact .inr fun R k => (by kernel_rfl); exact .inl fun R k => rfl
theorem ok_z71z [Fuel] : Ok 22 (SS_z71z (@z71z _)) := okF_of std (.cons (ok_or p_z13z ok_z13z ok_z54z) .nil) ⟨rfl, rfl, by kernel_rfl, rfl, rfl, rfl⟩ (sm_z71z I_z71z) (cuts0 (fun _ => rfl) (by kernel_rfl)) Tryz.func22 (by kernel_rfl) (by kernel_rfl)
abbrev T_z40z : Type 1 := List G_Contact → {R : Type} → (List G_Contact → Option R) → Option R
def z40z_L3 (g : Nat) : Nat → List G_Contact → Int → Int → List (G_Contact × Bool) → {R : Type} → (List G_Contact → List (G_Contact × Bool) → Option R) → Option R
 | 0, _, _, _, _, _, _ => none
 | n + 1, v2, v3, v4, v5, _, e0 => (bif (decide (v4 < v3)) then none else e0 v2 v5)
def z40z_L9 (g : Nat) : Nat → List G_Contact → Int → Int → List (G_Contact × Bool) → List G_Contact → {R : Type} → (List G_Contact → Option R) → Option R
 | 0, _, _, _, _, _, _, _ => none
 | n + 1, v8, v9, v10, v11, v12, _, e0 => (bif (decide (v10 < v9)) then (get_ v8 v10 fun x14 => (bif (!((mget_Contact_bool x14 v11).getD false)) then (bif (decide ((v12.length + [x14].length) * 96 ≤ roomBytes')) then z40z_L9 g n v8 v9 (w64 (v10 + 1)) v11 (v12 ++ [x14]) e0 else none) else z40z_L9 g n v8 v9 (w64 (v10 + 1)) v11 v12 e0)) else e0 v12)
def z40z_ (g : Nat) (a1 : List G_Contact) {R : Type} (k0 : List G_Contact → Option R) : Option R :=
 (z40z_L3 g g a1 0 0 [] (fun e6 e7 => (z40z_L9 g g e6 (e6.length : Int) 0 e7 [] (fun e15 => k0 e15))))
noncomputable def z40z [Fuel] : T_z40z := @z40z_ NN
def SS_z40z (g : T_z40z) : Spec A := fun args => match args with | [.d (.sl 35 a1), .d .nsl] => fun k => g a1 (fun z0 => k (.arr 35 z0) [.undef, .undef]) | _ => fun _ => none
def sh_z40z_L3 : SSt := mkSh 37 5 [(0, .sl 35), (5, .mp 0), (12, .nsl), (13, .int .i64), (14, .int .i64)] [(0, .mp 35 4)]
def LP_z40z_L3 (g : Nat) (n : Nat) : LPT A := fun ps => match ps with | [.d (.sl 35 p1), .d (.int .i64 p2), .d (.int .i64 p3), .mp 35 4 p4] => fun K => z40z_L3 g n p1 p2 p3 p4 (fun z0 z1 => K (.exit 0) (mkSt 37 5 [(0, .d (.sl 35 z0)), (5, .mp 0)] [(0, some (.mp 35 4 z1))])) | _ => fun _ => none
def sh_z40z_L9 : SSt := mkSh 37 5 [(5, .mp 0), (8, .own 35 1), (21, .sl 35), (22, .int .i64), (23, .int .i64)] [(0, .mp 35 4), (1, .row 35)]
def LP_z40z_L9 (g : Nat) (n : Nat) : LPT A := fun ps => match ps with | [.d (.sl 35 p1), .d (.int .i64 p2), .d (.int .i64 p3), .mp 35 4 p4, .d (.sl 35 p5)] => fun K => z40z_L9 g n p1 p2 p3 p4 p5 (fun z0 => K (.exit 2) (mkSt 37 5 [(8, .own 35 1)] [(1, some (.row 35 z0))])) | _ => fun _ => none
noncomputable def code_30 : Code := (Tryz.f30.body).getD .skip
noncomputable def E_z40z (g : Nat) : Env A := mkE [] [(10, [2]), (11, [0]), (33, [3]), (34, [4])] [(3, ⟨[0, 5, 12, 13, 14], [], [0], [], [], []⟩), (9, ⟨[5, 8, 21, 22, 23], [(8, 35, 1)], [0], [], [], []⟩)] [(3, ⟨[0, 5], [], [0], [], [], []⟩), (9, ⟨[8], [], [1], [], [], []⟩)] [(3, pieceOf sh_z40z_L3 (LP_z40z_L3 g g)), (9, pieceOf sh_z40z_L9 (LP_z40z_L9 g g))] [] [] [] [] []
theorem ct_z40z [Fuel] : NatTab (E_z40z NN).C := ct_of (P := Tryz.prog) (T := T) .nil (by kernel_rfl)
noncomputable def cb_z40z_L3 : Code := sub [1, 1, 0, 1, 0, 0] code_30
theorem s_z40z_L3 (g : Nat) (n : Nat) : StepOk (E_z40z g) g cb_z40z_L3 sh_z40z_L3 (LP_z40z_L3 g) n := by intro ps; unfold LP_z40z_L3; split; exact .inr fun R K => (by kernel_rfl); exact .inl fun R K => rfl
theorem lf_z40z_L3 [Fuel] : LoopFine (E_z40z NN) NN cb_z40z_L3 := fine_loop sh_z40z_L3 (LP_z40z_L3 NN) (by kernel_rfl) ct_z40z (cuts0 (fun _ => rfl) (by kernel_rfl)) (fun ps R K => by unfold LP_z40z_L3; split <;> (try unfold z40z_L3) <;> rfl) (s_z40z_L3 NN)
noncomputable def cb_z40z_L9 : Code := sub [1, 1, 1, 1, 0, 1, 0, 0] code_30
theorem s_z40z_L9 (g : Nat) (n : Nat) : StepOk (E_z40z g) g cb_z40z_L9 sh_z40z_L9 (LP_z40z_L9 g) n := by intro ps; unfold LP_z40z_L9; split; exact .inr fun R K => (by kernel_rfl); exact .inl fun R K => rfl
theorem lf_z40z_L9 [Fuel] : LoopFine (E_z40z NN) NN cb_z40z_L9 := fine_loop sh_z40z_L9 (LP_z40z_L9 NN) (by kernel_rfl) ct_z40z (cuts0 (fun _ => rfl) (by kernel_rfl)) (fun ps R K => by unfold LP_z40z_L9; split <;> (try unfold z40z_L9) <;> rfl) (s_z40z_L9 NN)
theorem sm_z40z (g : Nat) : Same (SS_z40z (@z40z_ g)) (abody (E_z40z g) Tryz.f30 code_30 5 [] [.arr 35] g) := by intro args; unfold SS_z40z; split; exact .inr fun R k => (by kernel_rfl); exact .inl fun R k => rfl
theorem ok_z40z [Fuel] : Ok 30 (SS_z40z (@z40z _)) := okF_of std .nil ⟨rfl, rfl, by kernel_rfl, rfl, rfl, rfl⟩ (sm_z40z NN) (cutsL (fun _ => rfl) (.cons lf_z40z_L3 (.cons lf_z40z_L9 .nil)) (by kernel_rfl)) Tryz.func30 (by kernel_rfl) (by kernel_rfl)
abbrev T_z82z : Type 1 := List G_Contact → {R : Type} → (List G_Contact → Int → Option R) → Option R
structure C_z82z where
 N : Nat
 z71z : T_z71z
 z40z : T_z40z
def z82z_ (g : C_z82z) (a1 : List G_Contact) {R : Type} (k0 : List G_Contact → Int → Option R) : Option R :=
 (g.z71z a1 (fun r2 => (bif (r2 != 0) then k0 [] r2 else (g.z40z a1 (fun r3 => k0 r3 0)))))
noncomputable def I_z82z [Fuel] : C_z82z := ⟨NN, @z71z _, @z40z _⟩
noncomputable def z82z [Fuel] : T_z82z := @z82z_ I_z82z
def SS_z82z (g : T_z82z) : Spec A := fun args => match args with | [.d .nsl, .d (.sl 35 a1)] => fun k => g a1 (fun z0 z1 => k (.tup [.arr 35 z0, .d (.int .i64 z1)]) [.undef, .undef]) | _ => fun _ => none
noncomputable def code_9 : Code := (Tryz.f9.body).getD .skip
noncomputable def E_z82z (g : C_z82z) : Env A := mkE [(22, SS_z71z g.z71z), (30, SS_z40z g.z40z)] [(15, [0])] [] [] [] [] [] [] [] []
theorem sm_z82z (g : C_z82z) : Same (SS_z82z (@z82z_ g)) (abody (E_z82z g) Tryz.f9 code_9 1 [] [.arr 35, .asis] g.N) := by intro args; unfold SS_z82z; split; exact .inr fun R k => (by kernel_rfl); exact .inl fun R k => rfl
theorem ok_z82z [Fuel] : Ok 9 (SS_z82z (@z82z _)) := okF_of std (.cons ok_z71z (.cons ok_z40z .nil)) ⟨rfl, rfl, by kernel_rfl, rfl, rfl, rfl⟩ (sm_z82z I_z82z) (cuts0 (fun _ => rfl) (by kernel_rfl)) Tryz.func9 (by kernel_rfl) (by kernel_rfl)
end Go.Am
