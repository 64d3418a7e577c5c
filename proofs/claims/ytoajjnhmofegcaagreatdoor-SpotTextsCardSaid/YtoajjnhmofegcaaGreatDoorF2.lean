/- The functions of the program as Lean functions, each shown to be what the code computes, part 2. No condition: lemmas for the claim. -/
import Derived.Test.YtoajjnhmofegcaaGreatDoorF0
import Derived.Test.YtoajjnhmofegcaaGreatDoorFSh
import Derived.Test.YtoajjnhmofegcaaGreatDoorF1
set_option linter.unusedVariables false
set_option maxRecDepth 100000
namespace Go.Am
open Go Go.Proofs
abbrev T_slices_stableCmpFunc__Spot_Q_SpotOrder : Type 1 := List G_Spot → Int → {R : Type} → (List G_Spot → Option R) → Option R
structure C_slices_stableCmpFunc__Spot_Q_SpotOrder where
 N : Nat
 slices_insertionSortCmpFunc__Spot_Q_SpotOrder : T_slices_insertionSortCmpFunc__Spot_Q_SpotOrder
def slices_stableCmpFunc__Spot_Q_SpotOrder_L2 (g : C_slices_stableCmpFunc__Spot_Q_SpotOrder) : Nat → Int → Int → Int → Int → List G_Spot → {R : Type} → (Int → Int → Int → List G_Spot → Option R) → Option R
 | 0, _, _, _, _, _, _, _ => none
 | n + 1, v3, v4, v5, v6, v7, _, e0 => (bif (decide (v6 ≤ v3)) then (g.slices_insertionSortCmpFunc__Spot_Q_SpotOrder v7 v5 v6 (fun r9 => slices_stableCmpFunc__Spot_Q_SpotOrder_L2 g n v3 v4 v6 (w64 (v6 + v4)) r9 e0)) else e0 v3 v4 v5 v7)
def slices_stableCmpFunc__Spot_Q_SpotOrder_L9 (g : C_slices_stableCmpFunc__Spot_Q_SpotOrder) : Nat → Int → Int → Int → Int → List G_Spot → {R : Type} → (Int → Int → Int → List G_Spot → Option R) → Option R
 | 0, _, _, _, _, _, _, _ => none
 | n + 1, v27, v28, v29, v30, v31, _, e0 => (bif (decide (v30 ≤ v27)) then none else e0 v27 v28 v29 v31)
def slices_stableCmpFunc__Spot_Q_SpotOrder_L7 (g : C_slices_stableCmpFunc__Spot_Q_SpotOrder) : Nat → Int → Int → List G_Spot → {R : Type} → (List G_Spot → Option R) → Option R
 | 0, _, _, _, _, _ => none
 | n + 1, v15, v16, v17, _, e0 => (bif (decide (v16 < v15)) then (slices_stableCmpFunc__Spot_Q_SpotOrder_L9 g g.N v15 v16 0 (w64 (2 * v16)) v17 (fun e32 e33 e34 e35 => (bif (decide ((w64 (e34 + e33)) < e32)) then none else slices_stableCmpFunc__Spot_Q_SpotOrder_L7 g n e32 (w64 (e33 * 2)) e35 e0))) else e0 v17)
def slices_stableCmpFunc__Spot_Q_SpotOrder_ (g : C_slices_stableCmpFunc__Spot_Q_SpotOrder) (a1 : List G_Spot) (a2 : Int) {R : Type} (k0 : List G_Spot → Option R) : Option R :=
 (slices_stableCmpFunc__Spot_Q_SpotOrder_L2 g g.N a2 20 0 20 a1 (fun e10 e11 e12 e13 => (g.slices_insertionSortCmpFunc__Spot_Q_SpotOrder e13 e12 e10 (fun r14 => (slices_stableCmpFunc__Spot_Q_SpotOrder_L7 g g.N e10 e11 r14 (fun e36 => k0 e36))))))
noncomputable def I_slices_stableCmpFunc__Spot_Q_SpotOrder [Fuel] : C_slices_stableCmpFunc__Spot_Q_SpotOrder := ⟨NN, @slices_insertionSortCmpFunc__Spot_Q_SpotOrder _⟩
noncomputable def slices_stableCmpFunc__Spot_Q_SpotOrder [Fuel] : T_slices_stableCmpFunc__Spot_Q_SpotOrder := @slices_stableCmpFunc__Spot_Q_SpotOrder_ I_slices_stableCmpFunc__Spot_Q_SpotOrder
def SS_slices_stableCmpFunc__Spot_Q_SpotOrder (g : T_slices_stableCmpFunc__Spot_Q_SpotOrder) : Spec A := fun args => match args with | [.arr 61 a1, .d (.int .i64 a2), .fn 95 []] => fun k => g a1 a2 (fun z0 => k (.tup []) [.arr 61 z0, .undef, .fn 95 []]) | _ => fun _ => none
def sh_slices_stableCmpFunc__Spot_Q_SpotOrder_L2 : SSt := mkSh 63 1 [(0, .own 61 0), (1, .int .i64), (2, .fn 95 []), (6, .int .i64), (7, .int .i64), (8, .int .i64)] [(0, .row 61)]
def LP_slices_stableCmpFunc__Spot_Q_SpotOrder_L2 (g : C_slices_stableCmpFunc__Spot_Q_SpotOrder) (n : Nat) : LPT A := fun ps => match ps with | [.d (.int .i64 p1), .d (.int .i64 p2), .d (.int .i64 p3), .d (.int .i64 p4), .d (.sl 61 p5)] => fun K => slices_stableCmpFunc__Spot_Q_SpotOrder_L2 g n p1 p2 p3 p4 p5 (fun z0 z1 z2 z3 => K (.exit 0) (mkSt 63 1 [(0, .own 61 0), (1, .d (.int .i64 z0)), (2, .fn 95 []), (6, .d (.int .i64 z1)), (7, .d (.int .i64 z2))] [(0, some (.row 61 z3))])) | _ => fun _ => none
def sh_slices_stableCmpFunc__Spot_Q_SpotOrder_L9 : SSt := mkSh 63 1 [(0, .own 61 0), (1, .int .i64), (2, .fn 95 []), (6, .int .i64), (7, .int .i64), (8, .int .i64)] [(0, .row 61)]
def LP_slices_stableCmpFunc__Spot_Q_SpotOrder_L9 (g : C_slices_stableCmpFunc__Spot_Q_SpotOrder) (n : Nat) : LPT A := fun ps => match ps with | [.d (.int .i64 p1), .d (.int .i64 p2), .d (.int .i64 p3), .d (.int .i64 p4), .d (.sl 61 p5)] => fun K => slices_stableCmpFunc__Spot_Q_SpotOrder_L9 g n p1 p2 p3 p4 p5 (fun z0 z1 z2 z3 => K (.exit 4) (mkSt 63 1 [(0, .own 61 0), (1, .d (.int .i64 z0)), (2, .fn 95 []), (6, .d (.int .i64 z1)), (7, .d (.int .i64 z2))] [(0, some (.row 61 z3))])) | _ => fun _ => none
def sh_slices_stableCmpFunc__Spot_Q_SpotOrder_L7 : SSt := mkSh 63 1 [(0, .own 61 0), (1, .int .i64), (2, .fn 95 []), (6, .int .i64)] [(0, .row 61)]
def LP_slices_stableCmpFunc__Spot_Q_SpotOrder_L7 (g : C_slices_stableCmpFunc__Spot_Q_SpotOrder) (n : Nat) : LPT A := fun ps => match ps with | [.d (.int .i64 p1), .d (.int .i64 p2), .d (.sl 61 p3)] => fun K => slices_stableCmpFunc__Spot_Q_SpotOrder_L7 g n p1 p2 p3 (fun z0 => K (.exit 2) (mkSt 63 1 [(0, .own 61 0), (2, .fn 95 [])] [(0, some (.row 61 z0))])) | _ => fun _ => none
noncomputable def code_147 : Code := (Tryz.f147.body).getD .skip
noncomputable def E_slices_stableCmpFunc__Spot_Q_SpotOrder (g : C_slices_stableCmpFunc__Spot_Q_SpotOrder) : Env A := mkE [(192, SS_slices_insertionSortCmpFunc__Spot_Q_SpotOrder g.slices_insertionSortCmpFunc__Spot_Q_SpotOrder)] [] [(2, ⟨[0, 1, 2, 6, 7, 8], [], [0], [], [], [], []⟩), (9, ⟨[0, 1, 2, 6, 7, 8], [], [0], [], [], [], []⟩), (7, ⟨[0, 1, 2, 6], [], [0], [], [], [], []⟩)] [(2, ⟨[0, 1, 2, 6, 7], [], [0], [], [], [], []⟩), (9, ⟨[0, 1, 2, 6, 7], [], [0], [], [], [], []⟩), (7, ⟨[0, 2], [], [0], [], [], [], []⟩)] [(2, pieceOf sh_slices_stableCmpFunc__Spot_Q_SpotOrder_L2 (LP_slices_stableCmpFunc__Spot_Q_SpotOrder_L2 g g.N)), (9, pieceOf sh_slices_stableCmpFunc__Spot_Q_SpotOrder_L9 (LP_slices_stableCmpFunc__Spot_Q_SpotOrder_L9 g g.N)), (7, pieceOf sh_slices_stableCmpFunc__Spot_Q_SpotOrder_L7 (LP_slices_stableCmpFunc__Spot_Q_SpotOrder_L7 g g.N))] [] [] [] [(192, 0)] [0, 2]
theorem ct_slices_stableCmpFunc__Spot_Q_SpotOrder [Fuel] : NatTab (E_slices_stableCmpFunc__Spot_Q_SpotOrder I_slices_stableCmpFunc__Spot_Q_SpotOrder).C := ct_of (P := Tryz.prog) (T := T) (.cons ok_slices_insertionSortCmpFunc__Spot_Q_SpotOrder .nil) (by kernel_rfl)
noncomputable def cb_slices_stableCmpFunc__Spot_Q_SpotOrder_L2 : Code := sub [1, 1, 0, 0, 0] code_147
theorem s_slices_stableCmpFunc__Spot_Q_SpotOrder_L2 (g : C_slices_stableCmpFunc__Spot_Q_SpotOrder) (n : Nat) : StepOk (E_slices_stableCmpFunc__Spot_Q_SpotOrder g) g.N cb_slices_stableCmpFunc__Spot_Q_SpotOrder_L2 sh_slices_stableCmpFunc__Spot_Q_SpotOrder_L2 (LP_slices_stableCmpFunc__Spot_Q_SpotOrder_L2 g) n := by intro ps; unfold LP_slices_stableCmpFunc__Spot_Q_SpotOrder_L2; split; exact .inr fun R K => (by kernel_rfl); exact .inl fun R K => rfl
theorem lf_slices_stableCmpFunc__Spot_Q_SpotOrder_L2 [Fuel] : LoopFine (E_slices_stableCmpFunc__Spot_Q_SpotOrder I_slices_stableCmpFunc__Spot_Q_SpotOrder) NN cb_slices_stableCmpFunc__Spot_Q_SpotOrder_L2 := fine_loop sh_slices_stableCmpFunc__Spot_Q_SpotOrder_L2 (LP_slices_stableCmpFunc__Spot_Q_SpotOrder_L2 I_slices_stableCmpFunc__Spot_Q_SpotOrder) (by kernel_rfl) ct_slices_stableCmpFunc__Spot_Q_SpotOrder (cuts0 (fun _ => rfl) (by kernel_rfl)) (fun ps R K => by unfold LP_slices_stableCmpFunc__Spot_Q_SpotOrder_L2; split <;> (try unfold slices_stableCmpFunc__Spot_Q_SpotOrder_L2) <;> rfl) (s_slices_stableCmpFunc__Spot_Q_SpotOrder_L2 I_slices_stableCmpFunc__Spot_Q_SpotOrder)
noncomputable def cb_slices_stableCmpFunc__Spot_Q_SpotOrder_L9 : Code := sub [1, 1, 1, 1, 0, 0, 1, 0, 1, 0, 0, 0] code_147
theorem s_slices_stableCmpFunc__Spot_Q_SpotOrder_L9 (g : C_slices_stableCmpFunc__Spot_Q_SpotOrder) (n : Nat) : StepOk (E_slices_stableCmpFunc__Spot_Q_SpotOrder g) g.N cb_slices_stableCmpFunc__Spot_Q_SpotOrder_L9 sh_slices_stableCmpFunc__Spot_Q_SpotOrder_L9 (LP_slices_stableCmpFunc__Spot_Q_SpotOrder_L9 g) n := by intro ps; unfold LP_slices_stableCmpFunc__Spot_Q_SpotOrder_L9; split; exact .inr fun R K => (by kernel_rfl); exact .inl fun R K => rfl
theorem lf_slices_stableCmpFunc__Spot_Q_SpotOrder_L9 [Fuel] : LoopFine (E_slices_stableCmpFunc__Spot_Q_SpotOrder I_slices_stableCmpFunc__Spot_Q_SpotOrder) NN cb_slices_stableCmpFunc__Spot_Q_SpotOrder_L9 := fine_loop sh_slices_stableCmpFunc__Spot_Q_SpotOrder_L9 (LP_slices_stableCmpFunc__Spot_Q_SpotOrder_L9 I_slices_stableCmpFunc__Spot_Q_SpotOrder) (by kernel_rfl) ct_slices_stableCmpFunc__Spot_Q_SpotOrder (cuts0 (fun _ => rfl) (by kernel_rfl)) (fun ps R K => by unfold LP_slices_stableCmpFunc__Spot_Q_SpotOrder_L9; split <;> (try unfold slices_stableCmpFunc__Spot_Q_SpotOrder_L9) <;> rfl) (s_slices_stableCmpFunc__Spot_Q_SpotOrder_L9 I_slices_stableCmpFunc__Spot_Q_SpotOrder)
noncomputable def cb_slices_stableCmpFunc__Spot_Q_SpotOrder_L7 : Code := sub [1, 1, 1, 1, 0, 0] code_147
theorem s_slices_stableCmpFunc__Spot_Q_SpotOrder_L7 (g : C_slices_stableCmpFunc__Spot_Q_SpotOrder) (n : Nat) : StepOk (E_slices_stableCmpFunc__Spot_Q_SpotOrder g) g.N cb_slices_stableCmpFunc__Spot_Q_SpotOrder_L7 sh_slices_stableCmpFunc__Spot_Q_SpotOrder_L7 (LP_slices_stableCmpFunc__Spot_Q_SpotOrder_L7 g) n := by intro ps; unfold LP_slices_stableCmpFunc__Spot_Q_SpotOrder_L7; split; exact .inr fun R K => (by kernel_rfl); exact .inl fun R K => rfl
theorem lf_slices_stableCmpFunc__Spot_Q_SpotOrder_L7 [Fuel] : LoopFine (E_slices_stableCmpFunc__Spot_Q_SpotOrder I_slices_stableCmpFunc__Spot_Q_SpotOrder) NN cb_slices_stableCmpFunc__Spot_Q_SpotOrder_L7 := fine_loop sh_slices_stableCmpFunc__Spot_Q_SpotOrder_L7 (LP_slices_stableCmpFunc__Spot_Q_SpotOrder_L7 I_slices_stableCmpFunc__Spot_Q_SpotOrder) (by kernel_rfl) ct_slices_stableCmpFunc__Spot_Q_SpotOrder (cutsL (fun _ => rfl) (.cons lf_slices_stableCmpFunc__Spot_Q_SpotOrder_L9 .nil) (by kernel_rfl)) (fun ps R K => by unfold LP_slices_stableCmpFunc__Spot_Q_SpotOrder_L7; split <;> (try unfold slices_stableCmpFunc__Spot_Q_SpotOrder_L7) <;> rfl) (s_slices_stableCmpFunc__Spot_Q_SpotOrder_L7 I_slices_stableCmpFunc__Spot_Q_SpotOrder)
theorem sm_slices_stableCmpFunc__Spot_Q_SpotOrder (g : C_slices_stableCmpFunc__Spot_Q_SpotOrder) : Same (SS_slices_stableCmpFunc__Spot_Q_SpotOrder (@slices_stableCmpFunc__Spot_Q_SpotOrder_ g)) (abody (E_slices_stableCmpFunc__Spot_Q_SpotOrder g) Tryz.f147 code_147 1 [0] [] g.N) := by intro args; unfold SS_slices_stableCmpFunc__Spot_Q_SpotOrder; split; exact .inr fun R k => (by kernel_rfl); exact .inl fun R k => rfl
theorem ok_slices_stableCmpFunc__Spot_Q_SpotOrder [Fuel] : Ok 147 (SS_slices_stableCmpFunc__Spot_Q_SpotOrder (@slices_stableCmpFunc__Spot_Q_SpotOrder _)) := okF_of std (.cons ok_slices_insertionSortCmpFunc__Spot_Q_SpotOrder .nil) ⟨rfl, rfl, by kernel_rfl, rfl, rfl, rfl⟩ (sm_slices_stableCmpFunc__Spot_Q_SpotOrder I_slices_stableCmpFunc__Spot_Q_SpotOrder) (cutsL (fun _ => rfl) (.cons lf_slices_stableCmpFunc__Spot_Q_SpotOrder_L2 (.cons lf_slices_stableCmpFunc__Spot_Q_SpotOrder_L9 (.cons lf_slices_stableCmpFunc__Spot_Q_SpotOrder_L7 .nil))) (by kernel_rfl)) Tryz.func147 (by kernel_rfl) (by kernel_rfl)
abbrev T_slices_SortStableFunc__Spot_Q_SpotOrder : Type 1 := List G_Spot → {R : Type} → (List G_Spot → Option R) → Option R
structure C_slices_SortStableFunc__Spot_Q_SpotOrder where
 N : Nat
 slices_stableCmpFunc__Spot_Q_SpotOrder : T_slices_stableCmpFunc__Spot_Q_SpotOrder
def slices_SortStableFunc__Spot_Q_SpotOrder_ (g : C_slices_SortStableFunc__Spot_Q_SpotOrder) (a1 : List G_Spot) {R : Type} (k0 : List G_Spot → Option R) : Option R :=
 (g.slices_stableCmpFunc__Spot_Q_SpotOrder a1 (a1.length : Int) (fun r2 => k0 r2))
noncomputable def I_slices_SortStableFunc__Spot_Q_SpotOrder [Fuel] : C_slices_SortStableFunc__Spot_Q_SpotOrder := ⟨NN, @slices_stableCmpFunc__Spot_Q_SpotOrder _⟩
noncomputable def slices_SortStableFunc__Spot_Q_SpotOrder [Fuel] : T_slices_SortStableFunc__Spot_Q_SpotOrder := @slices_SortStableFunc__Spot_Q_SpotOrder_ I_slices_SortStableFunc__Spot_Q_SpotOrder
def SS_slices_SortStableFunc__Spot_Q_SpotOrder (g : T_slices_SortStableFunc__Spot_Q_SpotOrder) : Spec A := fun args => match args with | [.arr 61 a1, .fn 95 []] => fun k => g a1 (fun z0 => k (.tup []) [.arr 61 z0, .fn 95 []]) | _ => fun _ => none
noncomputable def code_94 : Code := (Tryz.f94.body).getD .skip
noncomputable def E_slices_SortStableFunc__Spot_Q_SpotOrder (g : C_slices_SortStableFunc__Spot_Q_SpotOrder) : Env A := mkE [(147, SS_slices_stableCmpFunc__Spot_Q_SpotOrder g.slices_stableCmpFunc__Spot_Q_SpotOrder)] [] [] [] [] [] [] [] [(147, 0)] [0, 1]
theorem sm_slices_SortStableFunc__Spot_Q_SpotOrder (g : C_slices_SortStableFunc__Spot_Q_SpotOrder) : Same (SS_slices_SortStableFunc__Spot_Q_SpotOrder (@slices_SortStableFunc__Spot_Q_SpotOrder_ g)) (abody (E_slices_SortStableFunc__Spot_Q_SpotOrder g) Tryz.f94 code_94 1 [0] [] g.N) := by intro args; unfold SS_slices_SortStableFunc__Spot_Q_SpotOrder; split; exact .inr fun R k => (by kernel_rfl); exact .inl fun R k => rfl
theorem ok_slices_SortStableFunc__Spot_Q_SpotOrder [Fuel] : Ok 94 (SS_slices_SortStableFunc__Spot_Q_SpotOrder (@slices_SortStableFunc__Spot_Q_SpotOrder _)) := okF_of std (.cons ok_slices_stableCmpFunc__Spot_Q_SpotOrder .nil) ⟨rfl, rfl, by kernel_rfl, rfl, rfl, rfl⟩ (sm_slices_SortStableFunc__Spot_Q_SpotOrder I_slices_SortStableFunc__Spot_Q_SpotOrder) (cuts0 (fun _ => rfl) (by kernel_rfl)) Tryz.func94 (by kernel_rfl) (by kernel_rfl)
abbrev T_slices_Compact__Spot : Type 1 := List G_Spot → {R : Type} → (List G_Spot → Option R) → Option R
def slices_Compact__Spot_L9 (g : Nat) : Nat → Int → Int → Int → Int → List G_Spot → {R : Type} → (Int → List G_Spot → Option R) → Option R
 | 0, _, _, _, _, _, _, _ => none
 | n + 1, v23, v24, v25, v26, v27, _, e0 => (bif (decide (v26 < ((v25 - v24).toNat : Int))) then (bif (decide (0 ≤ v26) && (decide (v26 < v25 - v24) && decide (v24 + v26 < (v27.length : Int)))) then (at_ v27 (v24 + v26) fun x32 => (bif (decide (0 ≤ (w64 (v26 - 1))) && (decide ((w64 (v26 - 1)) < v25 - v24) && decide (v24 + (w64 (v26 - 1)) < (v27.length : Int)))) then (at_ v27 (v24 + (w64 (v26 - 1))) fun x33 => (bif (!(eq_G_Spot x32 x33)) then (bif (decide (0 ≤ v26) && (decide (v26 < v25 - v24) && decide (v24 + v26 < (v27.length : Int)))) then (at_ v27 (v24 + v26) fun x34 => (inr v27 v23 (at_ v27 v23 fun x35 => slices_Compact__Spot_L9 g n (w64 (v23 + 1)) v24 v25 (w64 (v26 + 1)) (set_ v27 v23 x34) e0))) else none) else slices_Compact__Spot_L9 g n v23 v24 v25 (w64 (v26 + 1)) v27 e0)) else none)) else none) else e0 v23 v27)
def slices_Compact__Spot_L4 (g : Nat) : Nat → Int → List G_Spot → {R : Type} → (List G_Spot → Option R) → (List G_Spot → Option R) → Option R
 | 0, _, _, _, _, _ => none
 | n + 1, v2, v3, _, e0, e1 => (bif (decide (v2 < (v3.length : Int))) then (inr v3 v2 (at_ v3 v2 fun x21 => (inr v3 (w64 (v2 - 1)) (at_ v3 (w64 (v2 - 1)) fun x22 => (bif (eq_G_Spot x21 x22) then (bif (decide (0 < v3.length) && (decide (0 ≤ v2) && decide (v2 ≤ (v3.length : Int)))) then (slices_Compact__Spot_L9 g g v2 v2 (v3.length : Int) 1 v3 (fun e36 e37 => (bif (decide (0 < e37.length) && (decide (0 ≤ e36) && decide (e36 ≤ (e37.length : Int)))) then (bif (decide (0 ≤ e36) && (decide (e36 ≤ (e37.length : Int)) && decide (((e37.length : Int)).toNat ≤ e37.length))) then (bif (decide (0 ≤ e36) && decide (e36 ≤ ((e37.take (e36).toNat ++ (List.replicate ((e37.length : Int) - e36).toNat (⟨0, 0, [], []⟩ : G_Spot) ++ e37.drop ((e37.length : Int)).toNat)).length : Int))) then e0 ((e37.take (e36).toNat ++ (List.replicate ((e37.length : Int) - e36).toNat (⟨0, 0, [], []⟩ : G_Spot) ++ e37.drop ((e37.length : Int)).toNat)).take (e36 : Int).toNat) else none) else none) else none))) else none) else slices_Compact__Spot_L4 g n (w64 (v2 + 1)) v3 e0 e1))))) else e1 v3)
def slices_Compact__Spot_ (g : Nat) (a1 : List G_Spot) {R : Type} (k0 : List G_Spot → Option R) : Option R :=
 (bif (decide ((a1.length : Int) < 2)) then k0 a1 else (slices_Compact__Spot_L4 g g 1 a1 (fun e38 => k0 e38) (fun e39 => k0 e39)))
noncomputable def slices_Compact__Spot [Fuel] : T_slices_Compact__Spot := @slices_Compact__Spot_ NN
def SS_slices_Compact__Spot (g : T_slices_Compact__Spot) : Spec A := fun args => match args with | [.arr 61 a1] => fun k => g a1 (fun z0 => k (.arr 61 z0) [.undef]) | _ => fun _ => none
def sh_slices_Compact__Spot_L9 : SSt := mkSh 61 6 [(0, .own 61 0), (3, .int .i64), (4, .vw 61 0), (5, .int .i64)] [(0, .row 61)]
def LP_slices_Compact__Spot_L9 (g : Nat) (n : Nat) : LPT A := fun ps => match ps with | [.d (.int .i64 p1), .z p2, .z p3, .d (.int .i64 p4), .d (.sl 61 p5)] => fun K => slices_Compact__Spot_L9 g n p1 p2 p3 p4 p5 (fun z0 z1 => K (.exit 2) (mkSt 61 6 [(0, .own 61 0), (3, .d (.int .i64 z0))] [(0, some (.row 61 z1))])) | _ => fun _ => none
def sh_slices_Compact__Spot_L4 : SSt := mkSh 61 6 [(0, .own 61 0), (3, .int .i64)] [(0, .row 61)]
def LP_slices_Compact__Spot_L4 (g : Nat) (n : Nat) : LPT A := fun ps => match ps with | [.d (.int .i64 p1), .d (.sl 61 p2)] => fun K => slices_Compact__Spot_L4 g n p1 p2 (fun z0 => K .ret (mkSt 61 6 [(0, .own 61 0), (2, .own 61 5)] [(5, some (.row 61 z0))])) (fun z0 => K (.exit 0) (mkSt 61 6 [(0, .own 61 0)] [(0, some (.row 61 z0))])) | _ => fun _ => none
noncomputable def code_96 : Code := (Tryz.f96.body).getD .skip
noncomputable def E_slices_Compact__Spot (g : Nat) : Env A := mkE [] [(28, [1, 2]), (56, [3, 4]), (59, [5])] [(9, ⟨[0, 3, 4, 5], [], [0], [], [], [], []⟩), (4, ⟨[0, 3], [], [0], [], [], [], []⟩)] [(9, ⟨[0, 3], [], [0], [], [], [], []⟩), (4, ⟨[0, 2], [], [0, 5], [], [], [], []⟩)] [(9, pieceOf sh_slices_Compact__Spot_L9 (LP_slices_Compact__Spot_L9 g g)), (4, pieceOf sh_slices_Compact__Spot_L4 (LP_slices_Compact__Spot_L4 g g))] [] [] [] [] []
theorem ct_slices_Compact__Spot [Fuel] : NatTab (E_slices_Compact__Spot NN).C := ct_of (P := Tryz.prog) (T := T) .nil (by kernel_rfl)
noncomputable def cb_slices_Compact__Spot_L9 : Code := sub [1, 1, 0, 1, 0, 0, 1, 0, 0, 1, 0, 1, 0, 1, 0, 0] code_96
theorem s_slices_Compact__Spot_L9 (g : Nat) (n : Nat) : StepOk (E_slices_Compact__Spot g) g cb_slices_Compact__Spot_L9 sh_slices_Compact__Spot_L9 (LP_slices_Compact__Spot_L9 g) n := by intro ps; unfold LP_slices_Compact__Spot_L9; split; exact .inr fun R K => (by kernel_rfl); exact .inl fun R K => rfl
theorem lf_slices_Compact__Spot_L9 [Fuel] : LoopFine (E_slices_Compact__Spot NN) NN cb_slices_Compact__Spot_L9 := fine_loop sh_slices_Compact__Spot_L9 (LP_slices_Compact__Spot_L9 NN) (by kernel_rfl) ct_slices_Compact__Spot (cuts0 (fun _ => rfl) (by kernel_rfl)) (fun ps R K => by unfold LP_slices_Compact__Spot_L9; split <;> (try unfold slices_Compact__Spot_L9) <;> rfl) (s_slices_Compact__Spot_L9 NN)
noncomputable def cb_slices_Compact__Spot_L4 : Code := sub [1, 1, 0, 1, 0, 0] code_96
theorem s_slices_Compact__Spot_L4 (g : Nat) (n : Nat) : StepOk (E_slices_Compact__Spot g) g cb_slices_Compact__Spot_L4 sh_slices_Compact__Spot_L4 (LP_slices_Compact__Spot_L4 g) n := by intro ps; unfold LP_slices_Compact__Spot_L4; split; exact .inr fun R K => (by kernel_rfl); exact .inl fun R K => rfl
theorem lf_slices_Compact__Spot_L4 [Fuel] : LoopFine (E_slices_Compact__Spot NN) NN cb_slices_Compact__Spot_L4 := fine_loop sh_slices_Compact__Spot_L4 (LP_slices_Compact__Spot_L4 NN) (by kernel_rfl) ct_slices_Compact__Spot (cutsL (fun _ => rfl) (.cons lf_slices_Compact__Spot_L9 .nil) (by kernel_rfl)) (fun ps R K => by unfold LP_slices_Compact__Spot_L4; split <;> (try unfold slices_Compact__Spot_L4) <;> rfl) (s_slices_Compact__Spot_L4 NN)
theorem sm_slices_Compact__Spot (g : Nat) : Same (SS_slices_Compact__Spot (@slices_Compact__Spot_ g)) (abody (E_slices_Compact__Spot g) Tryz.f96 code_96 6 [0] [.arr 61] g) := by intro args; unfold SS_slices_Compact__Spot; split; exact .inr fun R k => (by kernel_rfl); exact .inl fun R k => rfl
theorem ok_slices_Compact__Spot [Fuel] : Ok 96 (SS_slices_Compact__Spot (@slices_Compact__Spot _)) := okF_of std .nil ⟨rfl, rfl, by kernel_rfl, rfl, rfl, rfl⟩ (sm_slices_Compact__Spot NN) (cutsL (fun _ => rfl) (.cons lf_slices_Compact__Spot_L9 (.cons lf_slices_Compact__Spot_L4 .nil)) (by kernel_rfl)) Tryz.func96 (by kernel_rfl) (by kernel_rfl)
abbrev T_Stream_Spots : Type 1 := G_Stream → Int → {R : Type} → (List G_Spot → G_Stream → Option R) → Option R
structure C_Stream_Spots where
 N : Nat
 Stream_Pick : T_Stream_Pick
 Stream_ACall : T_Stream_ACall
 Stream_Some : T_Stream_Some
 Stream_Flip : T_Stream_Flip
 Stream_Odd : T_Stream_Odd
 slices_SortStableFunc__Spot_Q_SpotOrder : T_slices_SortStableFunc__Spot_Q_SpotOrder
 slices_Compact__Spot : T_slices_Compact__Spot
def Stream_Spots_L4 (g : C_Stream_Spots) : Nat → Int → Int → Int → G_Stream → List G_Spot → {R : Type} → (G_Stream → List G_Spot → Option R) → Option R
 | 0, _, _, _, _, _, _, _ => none
 | n + 1, v3, v4, v5, v6, v7, _, e0 => (bif (decide (v5 < v4)) then (g.Stream_Pick v6 [0, 1, 5, 20] (fun r24 r25 => (g.Stream_Pick r25 [7000000, 7100000, 7299999, 7300000, 14000000, 14010000, 14020000, 14020000, 1800000, 5000000] (fun r26 r27 => (g.Stream_ACall r27 (fun r28 r29 => (g.Stream_Some r29 [[119, 49, 97, 119], [110, 49, 109, 109]] (fun r30 r31 => (g.Stream_Flip r31 80 (fun r32 r33 => (bif r32 then (g.Stream_Odd r33 0 100 (fun r34 r35 => (g.Stream_Odd r35 0 30000000000 (fun r36 r37 => (g.Stream_Some r37 [[], [119, 49, 97, 119]] (fun r38 r39 => (bif (decide ((v7.length + [(⟨r34, r36, r28, r38⟩ : G_Spot)].length) * 48 ≤ roomBytes')) then Stream_Spots_L4 g n (w64 (v3 + r24)) v4 (w64 (v5 + 1)) r39 (v7 ++ [(⟨r34, r36, r28, r38⟩ : G_Spot)]) e0 else none))))))) else (bif (decide ((v7.length + [(⟨(w64 (v3 + r24)), r26, r28, r30⟩ : G_Spot)].length) * 48 ≤ roomBytes')) then Stream_Spots_L4 g n (w64 (v3 + r24)) v4 (w64 (v5 + 1)) r33 (v7 ++ [(⟨(w64 (v3 + r24)), r26, r28, r30⟩ : G_Spot)]) e0 else none)))))))))))) else e0 v6 v7)
def Stream_Spots_ (g : C_Stream_Spots) (a1 : G_Stream) (a2 : Int) {R : Type} (k0 : List G_Spot → G_Stream → Option R) : Option R :=
 (Stream_Spots_L4 g g.N 0 a2 0 a1 [] (fun e40 e41 => (g.slices_SortStableFunc__Spot_Q_SpotOrder e41 (fun r42 => (g.slices_Compact__Spot r42 (fun r43 => k0 r43 e40))))))
noncomputable def I_Stream_Spots [Fuel] : C_Stream_Spots := ⟨NN, @Stream_Pick _, @Stream_ACall _, @Stream_Some _, @Stream_Flip _, @Stream_Odd _, @slices_SortStableFunc__Spot_Q_SpotOrder _, @slices_Compact__Spot _⟩
noncomputable def Stream_Spots [Fuel] : T_Stream_Spots := @Stream_Spots_ I_Stream_Spots
def SS_Stream_Spots (g : T_Stream_Spots) : Spec A := fun args => match args with | [.box [.d (.sl 3 a1), .d (.int .i64 a2)], .d (.int .i64 a3)] => fun k => g ⟨a1, a2⟩ a3 (fun z0 z1 => k (.arr 61 z0) [.box [.d (.sl 3 z1.f_L), .d (.int .i64 z1.f_at)], .undef]) | _ => fun _ => none
def sh_Stream_Spots_L4 : SSt := mkSh 47 10 [(0, .ptr 0 0), (5, .own 61 1), (6, .int .i64), (8, .int .i64), (9, .int .i64)] [(0, .box [.sl 3, .int .i64]), (1, .row 61)]
def LP_Stream_Spots_L4 (g : C_Stream_Spots) (n : Nat) : LPT A := fun ps => match ps with | [.d (.int .i64 p1), .d (.int .i64 p2), .d (.int .i64 p3), .d (.sl 3 p4), .d (.int .i64 p5), .d (.sl 61 p6)] => fun K => Stream_Spots_L4 g n p1 p2 p3 ⟨p4, p5⟩ p6 (fun z0 z1 => K (.exit 0) (mkSt 47 10 [(0, .ptr 0 0), (5, .own 61 1)] [(0, some (.box [.d (.sl 3 z0.f_L), .d (.int .i64 z0.f_at)])), (1, some (.row 61 z1))])) | _ => fun _ => none
noncomputable def code_26 : Code := (Tryz.f26.body).getD .skip
noncomputable def E_Stream_Spots (g : C_Stream_Spots) : Env A := mkE [(44, SS_Stream_Pick g.Stream_Pick), (69, SS_Stream_ACall g.Stream_ACall), (70, SS_Stream_Some g.Stream_Some), (71, SS_Stream_Flip g.Stream_Flip), (72, SS_Stream_Odd g.Stream_Odd), (94, SS_slices_SortStableFunc__Spot_Q_SpotOrder g.slices_SortStableFunc__Spot_Q_SpotOrder), (96, SS_slices_Compact__Spot g.slices_Compact__Spot)] [(7, [5]), (13, [2]), (18, [3]), (23, [4]), (33, [6]), (40, [7]), (41, [8]), (46, [9])] [(4, ⟨[0, 5, 6, 8, 9], [(5, 61, 1)], [0], [], [], [], []⟩)] [(4, ⟨[0, 5], [], [0, 1], [], [], [], []⟩)] [(4, pieceOf sh_Stream_Spots_L4 (LP_Stream_Spots_L4 g g.N))] [] [] [] [(94, 0), (96, 0)] [0]
theorem ct_Stream_Spots [Fuel] : NatTab (E_Stream_Spots I_Stream_Spots).C := ct_of (P := Tryz.prog) (T := T) (.cons ok_Stream_Pick (.cons ok_Stream_ACall (.cons ok_Stream_Some (.cons ok_Stream_Flip (.cons ok_Stream_Odd (.cons ok_slices_SortStableFunc__Spot_Q_SpotOrder (.cons ok_slices_Compact__Spot .nil))))))) (by kernel_rfl)
noncomputable def cb_Stream_Spots_L4 : Code := sub [1, 1, 1, 0, 1, 0, 0] code_26
theorem s_Stream_Spots_L4 (g : C_Stream_Spots) (n : Nat) : StepOk (E_Stream_Spots g) g.N cb_Stream_Spots_L4 sh_Stream_Spots_L4 (LP_Stream_Spots_L4 g) n := by intro ps; unfold LP_Stream_Spots_L4; split; exact .inr fun R K => (by kernel_rfl); exact .inl fun R K => rfl
theorem lf_Stream_Spots_L4 [Fuel] : LoopFine (E_Stream_Spots I_Stream_Spots) NN cb_Stream_Spots_L4 := fine_loop sh_Stream_Spots_L4 (LP_Stream_Spots_L4 I_Stream_Spots) (by kernel_rfl) ct_Stream_Spots (cuts0 (fun _ => rfl) (by kernel_rfl)) (fun ps R K => by unfold LP_Stream_Spots_L4; split <;> (try unfold Stream_Spots_L4) <;> rfl) (s_Stream_Spots_L4 I_Stream_Spots)
theorem sm_Stream_Spots (g : C_Stream_Spots) : Same (SS_Stream_Spots (@Stream_Spots_ g)) (abody (E_Stream_Spots g) Tryz.f26 code_26 10 [0] [.arr 61] g.N) := by intro args; unfold SS_Stream_Spots; split; exact .inr fun R k => (by kernel_rfl); exact .inl fun R k => rfl
theorem ok_Stream_Spots [Fuel] : Ok 26 (SS_Stream_Spots (@Stream_Spots _)) := okF_of std (.cons ok_Stream_Pick (.cons ok_Stream_ACall (.cons ok_Stream_Some (.cons ok_Stream_Flip (.cons ok_Stream_Odd (.cons ok_slices_SortStableFunc__Spot_Q_SpotOrder (.cons ok_slices_Compact__Spot .nil))))))) ⟨rfl, rfl, by kernel_rfl, rfl, rfl, rfl⟩ (sm_Stream_Spots I_Stream_Spots) (cutsL (fun _ => rfl) (.cons lf_Stream_Spots_L4 .nil) (by kernel_rfl)) Tryz.func26 (by kernel_rfl) (by kernel_rfl)
abbrev T_Q_in : Type 1 := Int → Int → Int → {R : Type} → (Bool → Option R) → Option R
def Q_in_ (g : Nat) (a1 a2 a3 : Int) {R : Type} (k0 : Bool → Option R) : Option R :=
 (bif (decide (a2 ≤ a1)) then k0 (decide (a1 ≤ a3)) else k0 false)
noncomputable def Q_in [Fuel] : T_Q_in := @Q_in_ NN
def SS_Q_in (g : T_Q_in) : Spec A := fun args => match args with | [.d (.int .i64 a1), .d (.int .i64 a2), .d (.int .i64 a3)] => fun k => g a1 a2 a3 (fun z0 => k (.d (.bool z0)) [.undef, .undef, .undef]) | _ => fun _ => none
noncomputable def code_83 : Code := (Tryz.f83.body).getD .skip
noncomputable def E_Q_in (g : Nat) : Env A := mkE [] [] [] [] [] [] [] [] [] []
theorem sm_Q_in (g : Nat) : Same (SS_Q_in (@Q_in_ g)) (abody (E_Q_in g) Tryz.f83 code_83 0 [] [.asis] g) := by intro args; unfold SS_Q_in; split; exact .inr fun R k => (by kernel_rfl); exact .inl fun R k => rfl
theorem ok_Q_in [Fuel] : Ok 83 (SS_Q_in (@Q_in _)) := okF_of std .nil ⟨rfl, rfl, by kernel_rfl, rfl, rfl, rfl⟩ (sm_Q_in NN) (cuts0 (fun _ => rfl) (by kernel_rfl)) Tryz.func83 (by kernel_rfl) (by kernel_rfl)
abbrev T_Q_Moment : Type 1 := Int → {R : Type} → (Bool → Option R) → Option R
structure C_Q_Moment where
 N : Nat
 Q_in : T_Q_in
def Q_Moment_ (g : C_Q_Moment) (a1 : Int) {R : Type} (k0 : Bool → Option R) : Option R :=
 (g.Q_in a1 0 345686399999 (fun r2 => k0 r2))
noncomputable def I_Q_Moment [Fuel] : C_Q_Moment := ⟨NN, @Q_in _⟩
noncomputable def Q_Moment [Fuel] : T_Q_Moment := @Q_Moment_ I_Q_Moment
def SS_Q_Moment (g : T_Q_Moment) : Spec A := fun args => match args with | [.d (.int .i64 a1)] => fun k => g a1 (fun z0 => k (.d (.bool z0)) [.undef]) | _ => fun _ => none
noncomputable def code_82 : Code := (Tryz.f82.body).getD .skip
noncomputable def E_Q_Moment (g : C_Q_Moment) : Env A := mkE [(83, SS_Q_in g.Q_in)] [] [] [] [] [] [] [] [] []
theorem sm_Q_Moment (g : C_Q_Moment) : Same (SS_Q_Moment (@Q_Moment_ g)) (abody (E_Q_Moment g) Tryz.f82 code_82 0 [] [.asis] g.N) := by intro args; unfold SS_Q_Moment; split; exact .inr fun R k => (by kernel_rfl); exact .inl fun R k => rfl
theorem ok_Q_Moment [Fuel] : Ok 82 (SS_Q_Moment (@Q_Moment _)) := okF_of std (.cons ok_Q_in .nil) ⟨rfl, rfl, by kernel_rfl, rfl, rfl, rfl⟩ (sm_Q_Moment I_Q_Moment) (cuts0 (fun _ => rfl) (by kernel_rfl)) Tryz.func82 (by kernel_rfl) (by kernel_rfl)
abbrev T_stringslite_Index : Type 1 := List UInt8 → List UInt8 → {R : Type} → (Int → Option R) → Option R
def stringslite_Index [Fuel] : T_stringslite_Index := @X_ix1
def SS_stringslite_Index (g : T_stringslite_Index) : Spec A := SSX_ix1 g
theorem ok_stringslite_Index [Fuel] : Ok 218 (SS_stringslite_Index (@stringslite_Index _)) := ⟨ssx_ix1_sound (ix1_sound (Any.stringslite_Index_one Tryz.lays219)), ssx_ix1_nat, enters_of (fn := Tryz.f218) Tryz.func218 (by kernel_rfl) (by kernel_rfl)⟩
abbrev T_stringslite_Cut : Type 1 := List UInt8 → List UInt8 → {R : Type} → (List UInt8 → List UInt8 → Bool → Option R) → Option R
structure C_stringslite_Cut where
 N : Nat
 stringslite_Index : T_stringslite_Index
def stringslite_Cut_ (g : C_stringslite_Cut) (a1 a2 : List UInt8) {R : Type} (k0 : List UInt8 → List UInt8 → Bool → Option R) : Option R :=
 (g.stringslite_Index a1 a2 (fun r3 => (bif (decide (r3 ≥ 0)) then (bif (decide (0 ≤ r3) && decide (r3 ≤ (a1.length : Int))) then (bif (decide (0 ≤ (w64 (r3 + (a2.length : Int)))) && decide ((w64 (r3 + (a2.length : Int))) ≤ (a1.length : Int))) then k0 (a1.take (r3 : Int).toNat) (a1.drop ((w64 (r3 + (a2.length : Int))) : Int).toNat) true else none) else none) else k0 a1 [] false)))
noncomputable def I_stringslite_Cut [Fuel] : C_stringslite_Cut := ⟨NN, @stringslite_Index _⟩
noncomputable def stringslite_Cut [Fuel] : T_stringslite_Cut := @stringslite_Cut_ I_stringslite_Cut
def SS_stringslite_Cut (g : T_stringslite_Cut) : Spec A := fun args => match args with | [.d (.str a1), .d (.str a2)] => fun k => g a1 a2 (fun z0 z1 z2 => k (.tup [.d (.str z0), .d (.str z1), .d (.bool z2)]) [.undef, .undef]) | _ => fun _ => none
noncomputable def code_173 : Code := (Tryz.f173.body).getD .skip
noncomputable def E_stringslite_Cut (g : C_stringslite_Cut) : Env A := mkE [(218, SS_stringslite_Index g.stringslite_Index)] [] [] [] [] [] [] [] [] []
theorem sm_stringslite_Cut (g : C_stringslite_Cut) : Same (SS_stringslite_Cut (@stringslite_Cut_ g)) (abody (E_stringslite_Cut g) Tryz.f173 code_173 0 [] [.asis, .asis, .asis] g.N) := by intro args; unfold SS_stringslite_Cut; split; exact .inr fun R k => (by kernel_rfl); exact .inl fun R k => rfl
theorem ok_stringslite_Cut [Fuel] : Ok 173 (SS_stringslite_Cut (@stringslite_Cut _)) := okF_of std (.cons ok_stringslite_Index .nil) ⟨rfl, rfl, by kernel_rfl, rfl, rfl, rfl⟩ (sm_stringslite_Cut I_stringslite_Cut) (cuts0 (fun _ => rfl) (by kernel_rfl)) Tryz.func173 (by kernel_rfl) (by kernel_rfl)
abbrev T_strings_Cut : Type 1 := List UInt8 → List UInt8 → {R : Type} → (List UInt8 → List UInt8 → Bool → Option R) → Option R
structure C_strings_Cut where
 N : Nat
 stringslite_Cut : T_stringslite_Cut
def strings_Cut_ (g : C_strings_Cut) (a1 a2 : List UInt8) {R : Type} (k0 : List UInt8 → List UInt8 → Bool → Option R) : Option R :=
 (g.stringslite_Cut a1 a2 (fun r3 r4 r5 => k0 r3 r4 r5))
noncomputable def I_strings_Cut [Fuel] : C_strings_Cut := ⟨NN, @stringslite_Cut _⟩
noncomputable def strings_Cut [Fuel] : T_strings_Cut := @strings_Cut_ I_strings_Cut
def SS_strings_Cut (g : T_strings_Cut) : Spec A := fun args => match args with | [.d (.str a1), .d (.str a2)] => fun k => g a1 a2 (fun z0 z1 z2 => k (.tup [.d (.str z0), .d (.str z1), .d (.bool z2)]) [.undef, .undef]) | _ => fun _ => none
noncomputable def code_128 : Code := (Tryz.f128.body).getD .skip
noncomputable def E_strings_Cut (g : C_strings_Cut) : Env A := mkE [(173, SS_stringslite_Cut g.stringslite_Cut)] [] [] [] [] [] [] [] [] []
theorem sm_strings_Cut (g : C_strings_Cut) : Same (SS_strings_Cut (@strings_Cut_ g)) (abody (E_strings_Cut g) Tryz.f128 code_128 0 [] [.asis, .asis, .asis] g.N) := by intro args; unfold SS_strings_Cut; split; exact .inr fun R k => (by kernel_rfl); exact .inl fun R k => rfl
theorem ok_strings_Cut [Fuel] : Ok 128 (SS_strings_Cut (@strings_Cut _)) := okF_of std (.cons ok_stringslite_Cut .nil) ⟨rfl, rfl, by kernel_rfl, rfl, rfl, rfl⟩ (sm_strings_Cut I_strings_Cut) (cuts0 (fun _ => rfl) (by kernel_rfl)) Tryz.func128 (by kernel_rfl) (by kernel_rfl)
abbrev T_strings_IndexRune : Type 1 := List UInt8 → Int → {R : Type} → (Int → Option R) → Option R
def strings_IndexRune [Fuel] : T_strings_IndexRune := @X_ixr
def SS_strings_IndexRune (g : T_strings_IndexRune) : Spec A := SSX_ixr g
theorem ok_strings_IndexRune [Fuel] : Ok 280 (SS_strings_IndexRune (@strings_IndexRune _)) := ⟨ssx_ixr_sound (ixr_sound (fun s r w h0 h1 => Any.strings_IndexRune_ascii Tryz.lays152 s r w h0 h1)), ssx_ixr_nat, enters_of (fn := Tryz.f280) Tryz.func280 (by kernel_rfl) (by kernel_rfl)⟩
abbrev T_strings_shouldUseASCIISet : Type 1 := Int → {R : Type} → (Bool → Option R) → Option R
def strings_shouldUseASCIISet_ (g : Nat) (a1 : Int) {R : Type} (k0 : Bool → Option R) : Option R :=
 k0 (decide (a1 > 8))
noncomputable def strings_shouldUseASCIISet [Fuel] : T_strings_shouldUseASCIISet := @strings_shouldUseASCIISet_ NN
def SS_strings_shouldUseASCIISet (g : T_strings_shouldUseASCIISet) : Spec A := fun args => match args with | [.d (.int .i64 a1)] => fun k => g a1 (fun z0 => k (.d (.bool z0)) [.undef]) | _ => fun _ => none
noncomputable def code_281 : Code := (Tryz.f281.body).getD .skip
noncomputable def E_strings_shouldUseASCIISet (g : Nat) : Env A := mkE [] [] [] [] [] [] [] [] [] []
theorem sm_strings_shouldUseASCIISet (g : Nat) : Same (SS_strings_shouldUseASCIISet (@strings_shouldUseASCIISet_ g)) (abody (E_strings_shouldUseASCIISet g) Tryz.f281 code_281 0 [] [.asis] g) := by intro args; unfold SS_strings_shouldUseASCIISet; split; exact .inr fun R k => (by kernel_rfl); exact .inl fun R k => rfl
theorem ok_strings_shouldUseASCIISet [Fuel] : Ok 281 (SS_strings_shouldUseASCIISet (@strings_shouldUseASCIISet _)) := okF_of std .nil ⟨rfl, rfl, by kernel_rfl, rfl, rfl, rfl⟩ (sm_strings_shouldUseASCIISet NN) (cuts0 (fun _ => rfl) (by kernel_rfl)) Tryz.func281 (by kernel_rfl) (by kernel_rfl)
abbrev T_strings_makeASCIISet : Type 1 := List UInt8 → {R : Type} → Option R
def strings_makeASCIISet_ (g : Nat) (a1 : List UInt8) {R : Type}  : Option R :=
 none
noncomputable def strings_makeASCIISet [Fuel] : T_strings_makeASCIISet := @strings_makeASCIISet_ NN
def SS_strings_makeASCIISet (g : T_strings_makeASCIISet) : Spec A := fun args => match args with | [.d (.str a1)] => fun k => g a1 | _ => fun _ => none
noncomputable def code_226 : Code := (Tryz.f226.body).getD .skip
noncomputable def E_strings_makeASCIISet (g : Nat) : Env A := mkE [] [] [] [] [] [] [] [] [] []
noncomputable def cb_strings_makeASCIISet_L2 : Code := sub [1, 0, 1, 0, 0] code_226
theorem lf_strings_makeASCIISet_L2 [Fuel] : LoopFine (E_strings_makeASCIISet NN) NN cb_strings_makeASCIISet_L2 := no_loop (by kernel_rfl)
theorem sm_strings_makeASCIISet (g : Nat) : Same (SS_strings_makeASCIISet (@strings_makeASCIISet_ g)) (abody (E_strings_makeASCIISet g) Tryz.f226 code_226 0 [] [.asis, .asis] g) := by intro args; unfold SS_strings_makeASCIISet; split; exact .inr fun R k => (by kernel_rfl); exact .inl fun R k => rfl
theorem ok_strings_makeASCIISet [Fuel] : Ok 226 (SS_strings_makeASCIISet (@strings_makeASCIISet _)) := okF_of std .nil ⟨rfl, rfl, by kernel_rfl, rfl, rfl, rfl⟩ (sm_strings_makeASCIISet NN) (cutsL (fun _ => rfl) (.cons lf_strings_makeASCIISet_L2 .nil) (by kernel_rfl)) Tryz.func226 (by kernel_rfl) (by kernel_rfl)
abbrev T_utf8_RuneStart : Type 1 := Int → {R : Type} → Option R
def utf8_RuneStart_ (g : Nat) (a1 : Int) {R : Type}  : Option R :=
 none
noncomputable def utf8_RuneStart [Fuel] : T_utf8_RuneStart := @utf8_RuneStart_ NN
def SS_utf8_RuneStart (g : T_utf8_RuneStart) : Spec A := fun args => match args with | [.d (.int .u8 a1)] => fun k => g a1 | _ => fun _ => none
noncomputable def code_304 : Code := (Tryz.f304.body).getD .skip
noncomputable def E_utf8_RuneStart (g : Nat) : Env A := mkE [] [] [] [] [] [] [] [] [] []
theorem sm_utf8_RuneStart (g : Nat) : Same (SS_utf8_RuneStart (@utf8_RuneStart_ g)) (abody (E_utf8_RuneStart g) Tryz.f304 code_304 0 [] [.asis] g) := by intro args; unfold SS_utf8_RuneStart; split; exact .inr fun R k => (by kernel_rfl); exact .inl fun R k => rfl
theorem ok_utf8_RuneStart [Fuel] : Ok 304 (SS_utf8_RuneStart (@utf8_RuneStart _)) := okF_of std .nil ⟨rfl, rfl, by kernel_rfl, rfl, rfl, rfl⟩ (sm_utf8_RuneStart NN) (cuts0 (fun _ => rfl) (by kernel_rfl)) Tryz.func304 (by kernel_rfl) (by kernel_rfl)
abbrev T_utf8_decodeRuneInStringSlow : Type 1 := List UInt8 → {R : Type} → (Int → Int → Option R) → Option R
def utf8_decodeRuneInStringSlow_ (g : Nat) (a1 : List UInt8) {R : Type} (k0 : Int → Int → Option R) : Option R :=
 (bif (decide ((a1.length : Int) < 1)) then k0 65533 0 else (at_ a1 0 fun x2 => none))
noncomputable def utf8_decodeRuneInStringSlow [Fuel] : T_utf8_decodeRuneInStringSlow := @utf8_decodeRuneInStringSlow_ NN
def SS_utf8_decodeRuneInStringSlow (g : T_utf8_decodeRuneInStringSlow) : Spec A := fun args => match args with | [.d (.str a1)] => fun k => g a1 (fun z0 z1 => k (.tup [.d (.int .i32 z0), .d (.int .i64 z1)]) [.undef]) | _ => fun _ => none
noncomputable def code_301 : Code := (Tryz.f301.body).getD .skip
noncomputable def E_utf8_decodeRuneInStringSlow (g : Nat) : Env A := mkE [] [] [] [] [] [] [] [] [] []
theorem sm_utf8_decodeRuneInStringSlow (g : Nat) : Same (SS_utf8_decodeRuneInStringSlow (@utf8_decodeRuneInStringSlow_ g)) (abody (E_utf8_decodeRuneInStringSlow g) Tryz.f301 code_301 0 [] [.asis, .asis] g) := by intro args; unfold SS_utf8_decodeRuneInStringSlow; split; exact .inr fun R k => (by kernel_rfl); exact .inl fun R k => rfl
theorem ok_utf8_decodeRuneInStringSlow [Fuel] : Ok 301 (SS_utf8_decodeRuneInStringSlow (@utf8_decodeRuneInStringSlow _)) := okF_of std .nil ⟨rfl, rfl, by kernel_rfl, rfl, rfl, rfl⟩ (sm_utf8_decodeRuneInStringSlow NN) (cuts0 (fun _ => rfl) (by kernel_rfl)) Tryz.func301 (by kernel_rfl) (by kernel_rfl)
abbrev T_utf8_DecodeRuneInString : Type 1 := List UInt8 → {R : Type} → (Int → Int → Option R) → Option R
structure C_utf8_DecodeRuneInString where
 N : Nat
 utf8_decodeRuneInStringSlow : T_utf8_decodeRuneInStringSlow
def utf8_DecodeRuneInString_ (g : C_utf8_DecodeRuneInString) (a1 : List UInt8) {R : Type} (k0 : Int → Int → Option R) : Option R :=
 (bif (!(a1 == [])) then (at_ a1 0 fun x2 => (bif (decide ((x2.toNat : Int) < 128)) then (at_ a1 0 fun x3 => k0 (IntKind.i32.wrap (x3.toNat : Int)) 1) else (g.utf8_decodeRuneInStringSlow a1 (fun r4 r5 => k0 r4 r5)))) else (g.utf8_decodeRuneInStringSlow a1 (fun r6 r7 => k0 r6 r7)))
noncomputable def I_utf8_DecodeRuneInString [Fuel] : C_utf8_DecodeRuneInString := ⟨NN, @utf8_decodeRuneInStringSlow _⟩
noncomputable def utf8_DecodeRuneInString [Fuel] : T_utf8_DecodeRuneInString := @utf8_DecodeRuneInString_ I_utf8_DecodeRuneInString
def SS_utf8_DecodeRuneInString (g : T_utf8_DecodeRuneInString) : Spec A := fun args => match args with | [.d (.str a1)] => fun k => g a1 (fun z0 z1 => k (.tup [.d (.int .i32 z0), .d (.int .i64 z1)]) [.undef]) | _ => fun _ => none
noncomputable def code_262 : Code := (Tryz.f262.body).getD .skip
noncomputable def E_utf8_DecodeRuneInString (g : C_utf8_DecodeRuneInString) : Env A := mkE [(301, SS_utf8_decodeRuneInStringSlow g.utf8_decodeRuneInStringSlow)] [] [] [] [] [] [] [] [] []
theorem sm_utf8_DecodeRuneInString (g : C_utf8_DecodeRuneInString) : Same (SS_utf8_DecodeRuneInString (@utf8_DecodeRuneInString_ g)) (abody (E_utf8_DecodeRuneInString g) Tryz.f262 code_262 0 [] [.asis, .asis] g.N) := by intro args; unfold SS_utf8_DecodeRuneInString; split; exact .inr fun R k => (by kernel_rfl); exact .inl fun R k => rfl
theorem ok_utf8_DecodeRuneInString [Fuel] : Ok 262 (SS_utf8_DecodeRuneInString (@utf8_DecodeRuneInString _)) := okF_of std (.cons ok_utf8_decodeRuneInStringSlow .nil) ⟨rfl, rfl, by kernel_rfl, rfl, rfl, rfl⟩ (sm_utf8_DecodeRuneInString I_utf8_DecodeRuneInString) (cuts0 (fun _ => rfl) (by kernel_rfl)) Tryz.func262 (by kernel_rfl) (by kernel_rfl)
end Go.Am
