/- The functions of the program as Lean functions, each shown to be what the code computes, part 2. No condition: lemmas for the claim. -/
import Derived.Test.YtnkoiigdcbjenaaGreatDoorF0
import Derived.Test.YtnkoiigdcbjenaaGreatDoorFSh
import Derived.Test.YtnkoiigdcbjenaaGreatDoorF1
set_option linter.unusedVariables false
set_option maxRecDepth 100000
namespace Go.Am
open Go Go.Proofs
abbrev T_slices_stableCmpFunc__Try_Stream_Tries_1 : Type 1 := List G_Try → Int → {R : Type} → (List G_Try → Option R) → Option R
structure C_slices_stableCmpFunc__Try_Stream_Tries_1 where
  N : Nat
  slices_insertionSortCmpFunc__Try_Stream_Tries_1 : T_slices_insertionSortCmpFunc__Try_Stream_Tries_1
def slices_stableCmpFunc__Try_Stream_Tries_1_L2 (g : C_slices_stableCmpFunc__Try_Stream_Tries_1) : Nat → Int → Int → Int → Int → List G_Try → {R : Type} → (Int → Int → Int → List G_Try → Option R) → Option R
  | 0, _, _, _, _, _, _, _ => none
  | n + 1, v3, v4, v5, v6, v7, _, e0 => (bif (decide (v6 ≤ v3)) then (g.slices_insertionSortCmpFunc__Try_Stream_Tries_1 v7 v5 v6 (fun r9 => slices_stableCmpFunc__Try_Stream_Tries_1_L2 g n v3 v4 v6 (w64 (v6 + v4)) r9 e0)) else e0 v3 v4 v5 v7)
def slices_stableCmpFunc__Try_Stream_Tries_1_L9 (g : C_slices_stableCmpFunc__Try_Stream_Tries_1) : Nat → Int → Int → Int → Int → List G_Try → {R : Type} → (Int → Int → Int → List G_Try → Option R) → Option R
  | 0, _, _, _, _, _, _, _ => none
  | n + 1, v27, v28, v29, v30, v31, _, e0 => (bif (decide (v30 ≤ v27)) then none else e0 v27 v28 v29 v31)
def slices_stableCmpFunc__Try_Stream_Tries_1_L7 (g : C_slices_stableCmpFunc__Try_Stream_Tries_1) : Nat → Int → Int → List G_Try → {R : Type} → (List G_Try → Option R) → Option R
  | 0, _, _, _, _, _ => none
  | n + 1, v15, v16, v17, _, e0 => (bif (decide (v16 < v15)) then (slices_stableCmpFunc__Try_Stream_Tries_1_L9 g g.N v15 v16 0 (w64 (2 * v16)) v17 (fun e32 e33 e34 e35 => (bif (decide ((w64 (e34 + e33)) < e32)) then none else slices_stableCmpFunc__Try_Stream_Tries_1_L7 g n e32 (w64 (e33 * 2)) e35 e0))) else e0 v17)
def slices_stableCmpFunc__Try_Stream_Tries_1_ (g : C_slices_stableCmpFunc__Try_Stream_Tries_1) (a1 : List G_Try) (a2 : Int) {R : Type} (k0 : List G_Try → Option R) : Option R :=
  (slices_stableCmpFunc__Try_Stream_Tries_1_L2 g g.N a2 20 0 20 a1 (fun e10 e11 e12 e13 => (g.slices_insertionSortCmpFunc__Try_Stream_Tries_1 e13 e12 e10 (fun r14 => (slices_stableCmpFunc__Try_Stream_Tries_1_L7 g g.N e10 e11 r14 (fun e36 => k0 e36))))))
noncomputable def I_slices_stableCmpFunc__Try_Stream_Tries_1 [Fuel] : C_slices_stableCmpFunc__Try_Stream_Tries_1 := ⟨NN, @slices_insertionSortCmpFunc__Try_Stream_Tries_1 _⟩
noncomputable def slices_stableCmpFunc__Try_Stream_Tries_1 [Fuel] : T_slices_stableCmpFunc__Try_Stream_Tries_1 := @slices_stableCmpFunc__Try_Stream_Tries_1_ I_slices_stableCmpFunc__Try_Stream_Tries_1
def SS_slices_stableCmpFunc__Try_Stream_Tries_1 (g : T_slices_stableCmpFunc__Try_Stream_Tries_1) : Spec A := fun args => match args with | [.arr 127 a1, .d (.int .i64 a2), .fn 84 []] => fun k => g a1 a2 (fun z0 => k (.tup []) [.arr 127 z0, .undef, .fn 84 []]) | _ => fun _ => none
def sh_slices_stableCmpFunc__Try_Stream_Tries_1_L2 : SSt := mkSh 63 1 [(0, .own 127 0), (1, .int .i64), (2, .fn 84 []), (6, .int .i64), (7, .int .i64), (8, .int .i64)] [(0, .row 127)]
def LP_slices_stableCmpFunc__Try_Stream_Tries_1_L2 (g : C_slices_stableCmpFunc__Try_Stream_Tries_1) (n : Nat) : LPT A := fun ps => match ps with | [.d (.int .i64 p1), .d (.int .i64 p2), .d (.int .i64 p3), .d (.int .i64 p4), .d (.sl 127 p5)] => fun K => slices_stableCmpFunc__Try_Stream_Tries_1_L2 g n p1 p2 p3 p4 p5 (fun z0 z1 z2 z3 => K (.exit 0) (mkSt 63 1 [(0, .own 127 0), (1, .d (.int .i64 z0)), (2, .fn 84 []), (6, .d (.int .i64 z1)), (7, .d (.int .i64 z2))] [(0, some (.row 127 z3))])) | _ => fun _ => none
def sh_slices_stableCmpFunc__Try_Stream_Tries_1_L9 : SSt := mkSh 63 1 [(0, .own 127 0), (1, .int .i64), (2, .fn 84 []), (6, .int .i64), (7, .int .i64), (8, .int .i64)] [(0, .row 127)]
def LP_slices_stableCmpFunc__Try_Stream_Tries_1_L9 (g : C_slices_stableCmpFunc__Try_Stream_Tries_1) (n : Nat) : LPT A := fun ps => match ps with | [.d (.int .i64 p1), .d (.int .i64 p2), .d (.int .i64 p3), .d (.int .i64 p4), .d (.sl 127 p5)] => fun K => slices_stableCmpFunc__Try_Stream_Tries_1_L9 g n p1 p2 p3 p4 p5 (fun z0 z1 z2 z3 => K (.exit 4) (mkSt 63 1 [(0, .own 127 0), (1, .d (.int .i64 z0)), (2, .fn 84 []), (6, .d (.int .i64 z1)), (7, .d (.int .i64 z2))] [(0, some (.row 127 z3))])) | _ => fun _ => none
def sh_slices_stableCmpFunc__Try_Stream_Tries_1_L7 : SSt := mkSh 63 1 [(0, .own 127 0), (1, .int .i64), (2, .fn 84 []), (6, .int .i64)] [(0, .row 127)]
def LP_slices_stableCmpFunc__Try_Stream_Tries_1_L7 (g : C_slices_stableCmpFunc__Try_Stream_Tries_1) (n : Nat) : LPT A := fun ps => match ps with | [.d (.int .i64 p1), .d (.int .i64 p2), .d (.sl 127 p3)] => fun K => slices_stableCmpFunc__Try_Stream_Tries_1_L7 g n p1 p2 p3 (fun z0 => K (.exit 2) (mkSt 63 1 [(0, .own 127 0), (2, .fn 84 [])] [(0, some (.row 127 z0))])) | _ => fun _ => none
noncomputable def code_124 : Code := (Tryz.f124.body).getD .skip
noncomputable def E_slices_stableCmpFunc__Try_Stream_Tries_1 (g : C_slices_stableCmpFunc__Try_Stream_Tries_1) : Env A := mkE [(162, SS_slices_insertionSortCmpFunc__Try_Stream_Tries_1 g.slices_insertionSortCmpFunc__Try_Stream_Tries_1)] [] [(2, ⟨[0, 1, 2, 6, 7, 8], [], [0], []⟩), (9, ⟨[0, 1, 2, 6, 7, 8], [], [0], []⟩), (7, ⟨[0, 1, 2, 6], [], [0], []⟩)] [(2, ⟨[0, 1, 2, 6, 7], [], [0], []⟩), (9, ⟨[0, 1, 2, 6, 7], [], [0], []⟩), (7, ⟨[0, 2], [], [0], []⟩)] [(2, pieceOf sh_slices_stableCmpFunc__Try_Stream_Tries_1_L2 (LP_slices_stableCmpFunc__Try_Stream_Tries_1_L2 g g.N)), (9, pieceOf sh_slices_stableCmpFunc__Try_Stream_Tries_1_L9 (LP_slices_stableCmpFunc__Try_Stream_Tries_1_L9 g g.N)), (7, pieceOf sh_slices_stableCmpFunc__Try_Stream_Tries_1_L7 (LP_slices_stableCmpFunc__Try_Stream_Tries_1_L7 g g.N))] [] [] [] [(162, 0)] [0, 2]
theorem ct_slices_stableCmpFunc__Try_Stream_Tries_1 [Fuel] : NatTab (E_slices_stableCmpFunc__Try_Stream_Tries_1 I_slices_stableCmpFunc__Try_Stream_Tries_1).C := ct_of (P := Tryz.prog) (T := T) (.cons ok_slices_insertionSortCmpFunc__Try_Stream_Tries_1 .nil) (by kernel_rfl)
noncomputable def cb_slices_stableCmpFunc__Try_Stream_Tries_1_L2 : Code := sub [1, 1, 0, 0, 0] code_124
theorem s_slices_stableCmpFunc__Try_Stream_Tries_1_L2 (g : C_slices_stableCmpFunc__Try_Stream_Tries_1) (n : Nat) : StepOk (E_slices_stableCmpFunc__Try_Stream_Tries_1 g) g.N cb_slices_stableCmpFunc__Try_Stream_Tries_1_L2 sh_slices_stableCmpFunc__Try_Stream_Tries_1_L2 (LP_slices_stableCmpFunc__Try_Stream_Tries_1_L2 g) n := by intro ps; unfold LP_slices_stableCmpFunc__Try_Stream_Tries_1_L2; split; exact .inr fun R K => (by kernel_rfl); exact .inl fun R K => rfl
theorem lf_slices_stableCmpFunc__Try_Stream_Tries_1_L2 [Fuel] : LoopFine (E_slices_stableCmpFunc__Try_Stream_Tries_1 I_slices_stableCmpFunc__Try_Stream_Tries_1) NN cb_slices_stableCmpFunc__Try_Stream_Tries_1_L2 := fine_loop sh_slices_stableCmpFunc__Try_Stream_Tries_1_L2 (LP_slices_stableCmpFunc__Try_Stream_Tries_1_L2 I_slices_stableCmpFunc__Try_Stream_Tries_1) (by kernel_rfl) ct_slices_stableCmpFunc__Try_Stream_Tries_1 (cuts0 (fun _ => rfl) (by kernel_rfl)) (fun ps R K => by unfold LP_slices_stableCmpFunc__Try_Stream_Tries_1_L2; split <;> (try unfold slices_stableCmpFunc__Try_Stream_Tries_1_L2) <;> rfl) (s_slices_stableCmpFunc__Try_Stream_Tries_1_L2 I_slices_stableCmpFunc__Try_Stream_Tries_1)
noncomputable def cb_slices_stableCmpFunc__Try_Stream_Tries_1_L9 : Code := sub [1, 1, 1, 1, 0, 0, 1, 0, 1, 0, 0, 0] code_124
theorem s_slices_stableCmpFunc__Try_Stream_Tries_1_L9 (g : C_slices_stableCmpFunc__Try_Stream_Tries_1) (n : Nat) : StepOk (E_slices_stableCmpFunc__Try_Stream_Tries_1 g) g.N cb_slices_stableCmpFunc__Try_Stream_Tries_1_L9 sh_slices_stableCmpFunc__Try_Stream_Tries_1_L9 (LP_slices_stableCmpFunc__Try_Stream_Tries_1_L9 g) n := by intro ps; unfold LP_slices_stableCmpFunc__Try_Stream_Tries_1_L9; split; exact .inr fun R K => (by kernel_rfl); exact .inl fun R K => rfl
theorem lf_slices_stableCmpFunc__Try_Stream_Tries_1_L9 [Fuel] : LoopFine (E_slices_stableCmpFunc__Try_Stream_Tries_1 I_slices_stableCmpFunc__Try_Stream_Tries_1) NN cb_slices_stableCmpFunc__Try_Stream_Tries_1_L9 := fine_loop sh_slices_stableCmpFunc__Try_Stream_Tries_1_L9 (LP_slices_stableCmpFunc__Try_Stream_Tries_1_L9 I_slices_stableCmpFunc__Try_Stream_Tries_1) (by kernel_rfl) ct_slices_stableCmpFunc__Try_Stream_Tries_1 (cuts0 (fun _ => rfl) (by kernel_rfl)) (fun ps R K => by unfold LP_slices_stableCmpFunc__Try_Stream_Tries_1_L9; split <;> (try unfold slices_stableCmpFunc__Try_Stream_Tries_1_L9) <;> rfl) (s_slices_stableCmpFunc__Try_Stream_Tries_1_L9 I_slices_stableCmpFunc__Try_Stream_Tries_1)
noncomputable def cb_slices_stableCmpFunc__Try_Stream_Tries_1_L7 : Code := sub [1, 1, 1, 1, 0, 0] code_124
theorem s_slices_stableCmpFunc__Try_Stream_Tries_1_L7 (g : C_slices_stableCmpFunc__Try_Stream_Tries_1) (n : Nat) : StepOk (E_slices_stableCmpFunc__Try_Stream_Tries_1 g) g.N cb_slices_stableCmpFunc__Try_Stream_Tries_1_L7 sh_slices_stableCmpFunc__Try_Stream_Tries_1_L7 (LP_slices_stableCmpFunc__Try_Stream_Tries_1_L7 g) n := by intro ps; unfold LP_slices_stableCmpFunc__Try_Stream_Tries_1_L7; split; exact .inr fun R K => (by kernel_rfl); exact .inl fun R K => rfl
theorem lf_slices_stableCmpFunc__Try_Stream_Tries_1_L7 [Fuel] : LoopFine (E_slices_stableCmpFunc__Try_Stream_Tries_1 I_slices_stableCmpFunc__Try_Stream_Tries_1) NN cb_slices_stableCmpFunc__Try_Stream_Tries_1_L7 := fine_loop sh_slices_stableCmpFunc__Try_Stream_Tries_1_L7 (LP_slices_stableCmpFunc__Try_Stream_Tries_1_L7 I_slices_stableCmpFunc__Try_Stream_Tries_1) (by kernel_rfl) ct_slices_stableCmpFunc__Try_Stream_Tries_1 (cutsL (fun _ => rfl) (.cons lf_slices_stableCmpFunc__Try_Stream_Tries_1_L9 .nil) (by kernel_rfl)) (fun ps R K => by unfold LP_slices_stableCmpFunc__Try_Stream_Tries_1_L7; split <;> (try unfold slices_stableCmpFunc__Try_Stream_Tries_1_L7) <;> rfl) (s_slices_stableCmpFunc__Try_Stream_Tries_1_L7 I_slices_stableCmpFunc__Try_Stream_Tries_1)
theorem sm_slices_stableCmpFunc__Try_Stream_Tries_1 (g : C_slices_stableCmpFunc__Try_Stream_Tries_1) : Same (SS_slices_stableCmpFunc__Try_Stream_Tries_1 (@slices_stableCmpFunc__Try_Stream_Tries_1_ g)) (abody (E_slices_stableCmpFunc__Try_Stream_Tries_1 g) Tryz.f124 code_124 1 [0] [] g.N) := by intro args; unfold SS_slices_stableCmpFunc__Try_Stream_Tries_1; split; exact .inr fun R k => (by kernel_rfl); exact .inl fun R k => rfl
theorem ok_slices_stableCmpFunc__Try_Stream_Tries_1 [Fuel] : Ok 124 (SS_slices_stableCmpFunc__Try_Stream_Tries_1 (@slices_stableCmpFunc__Try_Stream_Tries_1 _)) := okF_of std (.cons ok_slices_insertionSortCmpFunc__Try_Stream_Tries_1 .nil) ⟨rfl, rfl, by kernel_rfl, rfl, rfl, rfl⟩ (sm_slices_stableCmpFunc__Try_Stream_Tries_1 I_slices_stableCmpFunc__Try_Stream_Tries_1) (cutsL (fun _ => rfl) (.cons lf_slices_stableCmpFunc__Try_Stream_Tries_1_L2 (.cons lf_slices_stableCmpFunc__Try_Stream_Tries_1_L9 (.cons lf_slices_stableCmpFunc__Try_Stream_Tries_1_L7 .nil))) (by kernel_rfl)) Tryz.func124 (by kernel_rfl) (by kernel_rfl)
abbrev T_slices_SortStableFunc__Try_Stream_Tries_1 : Type 1 := List G_Try → {R : Type} → (List G_Try → Option R) → Option R
structure C_slices_SortStableFunc__Try_Stream_Tries_1 where
  N : Nat
  slices_stableCmpFunc__Try_Stream_Tries_1 : T_slices_stableCmpFunc__Try_Stream_Tries_1
def slices_SortStableFunc__Try_Stream_Tries_1_ (g : C_slices_SortStableFunc__Try_Stream_Tries_1) (a1 : List G_Try) {R : Type} (k0 : List G_Try → Option R) : Option R :=
  (g.slices_stableCmpFunc__Try_Stream_Tries_1 a1 (a1.length : Int) (fun r2 => k0 r2))
noncomputable def I_slices_SortStableFunc__Try_Stream_Tries_1 [Fuel] : C_slices_SortStableFunc__Try_Stream_Tries_1 := ⟨NN, @slices_stableCmpFunc__Try_Stream_Tries_1 _⟩
noncomputable def slices_SortStableFunc__Try_Stream_Tries_1 [Fuel] : T_slices_SortStableFunc__Try_Stream_Tries_1 := @slices_SortStableFunc__Try_Stream_Tries_1_ I_slices_SortStableFunc__Try_Stream_Tries_1
def SS_slices_SortStableFunc__Try_Stream_Tries_1 (g : T_slices_SortStableFunc__Try_Stream_Tries_1) : Spec A := fun args => match args with | [.arr 127 a1, .fn 84 []] => fun k => g a1 (fun z0 => k (.tup []) [.arr 127 z0, .fn 84 []]) | _ => fun _ => none
noncomputable def code_83 : Code := (Tryz.f83.body).getD .skip
noncomputable def E_slices_SortStableFunc__Try_Stream_Tries_1 (g : C_slices_SortStableFunc__Try_Stream_Tries_1) : Env A := mkE [(124, SS_slices_stableCmpFunc__Try_Stream_Tries_1 g.slices_stableCmpFunc__Try_Stream_Tries_1)] [] [] [] [] [] [] [] [(124, 0)] [0, 1]
theorem sm_slices_SortStableFunc__Try_Stream_Tries_1 (g : C_slices_SortStableFunc__Try_Stream_Tries_1) : Same (SS_slices_SortStableFunc__Try_Stream_Tries_1 (@slices_SortStableFunc__Try_Stream_Tries_1_ g)) (abody (E_slices_SortStableFunc__Try_Stream_Tries_1 g) Tryz.f83 code_83 1 [0] [] g.N) := by intro args; unfold SS_slices_SortStableFunc__Try_Stream_Tries_1; split; exact .inr fun R k => (by kernel_rfl); exact .inl fun R k => rfl
theorem ok_slices_SortStableFunc__Try_Stream_Tries_1 [Fuel] : Ok 83 (SS_slices_SortStableFunc__Try_Stream_Tries_1 (@slices_SortStableFunc__Try_Stream_Tries_1 _)) := okF_of std (.cons ok_slices_stableCmpFunc__Try_Stream_Tries_1 .nil) ⟨rfl, rfl, by kernel_rfl, rfl, rfl, rfl⟩ (sm_slices_SortStableFunc__Try_Stream_Tries_1 I_slices_SortStableFunc__Try_Stream_Tries_1) (cuts0 (fun _ => rfl) (by kernel_rfl)) Tryz.func83 (by kernel_rfl) (by kernel_rfl)
abbrev T_Stream_Tries : Type 1 := G_Stream → {R : Type} → (List G_Try → G_Stream → Option R) → Option R
structure C_Stream_Tries where
  N : Nat
  Stream_Range : T_Stream_Range
  Stream_Pick : T_Stream_Pick
  Stream_Flip : T_Stream_Flip
  Stream_Some : T_Stream_Some
  Stream_Odd : T_Stream_Odd
  slices_SortStableFunc__Try_Stream_Tries_1 : T_slices_SortStableFunc__Try_Stream_Tries_1
def Stream_Tries_L4 (g : C_Stream_Tries) : Nat → Int → Int → Int → G_Stream → List G_Try → {R : Type} → (G_Stream → List G_Try → Option R) → Option R
  | 0, _, _, _, _, _, _, _ => none
  | n + 1, v4, v5, v6, v7, v8, _, e0 => (bif (decide (v6 < v5)) then (g.Stream_Pick v7 [0, 1, 2] (fun r27 r28 => (g.Stream_Some r28 [[107, 49, 97, 98], [111, 104, 50, 97, 98, 99], [119, 49, 97, 119]] (fun r29 r30 => (g.Stream_Some r30 [[97, 108, 108], [99, 111, 100, 101]] (fun r31 r32 => (g.Stream_Pick r32 [0, 5, 5, 7, 9] (fun r33 r34 => (g.Stream_Flip r34 80 (fun r35 r36 => (bif r35 then (g.Stream_Odd r36 0 9 (fun r37 r38 => (g.Stream_Some r38 [r29, []] (fun r39 r40 => (g.Stream_Some r40 [r31, [65]] (fun r41 r42 => (g.Stream_Odd r42 0 1000000000000 (fun r43 r44 => (bif (decide ((v8.length + [(⟨r37, r39, r41, r43⟩ : G_Try)].length) * 48 ≤ roomBytes')) then Stream_Tries_L4 g n (w64 (v4 + r27)) v5 (w64 (v6 + 1)) r44 (v8 ++ [(⟨r37, r39, r41, r43⟩ : G_Try)]) e0 else none))))))))) else (bif (decide ((v8.length + [(⟨(w64 (v4 + r27)), r29, r31, r33⟩ : G_Try)].length) * 48 ≤ roomBytes')) then Stream_Tries_L4 g n (w64 (v4 + r27)) v5 (w64 (v6 + 1)) r36 (v8 ++ [(⟨(w64 (v4 + r27)), r29, r31, r33⟩ : G_Try)]) e0 else none)))))))))))) else e0 v7 v8)
def Stream_Tries_ (g : C_Stream_Tries) (a1 : G_Stream) {R : Type} (k0 : List G_Try → G_Stream → Option R) : Option R :=
  (g.Stream_Range a1 0 8 (fun r2 r3 => (Stream_Tries_L4 g g.N 0 r2 0 r3 [] (fun e45 e46 => (g.slices_SortStableFunc__Try_Stream_Tries_1 e46 (fun r47 => k0 r47 e45))))))
noncomputable def I_Stream_Tries [Fuel] : C_Stream_Tries := ⟨NN, @Stream_Range _, @Stream_Pick _, @Stream_Flip _, @Stream_Some _, @Stream_Odd _, @slices_SortStableFunc__Try_Stream_Tries_1 _⟩
noncomputable def Stream_Tries [Fuel] : T_Stream_Tries := @Stream_Tries_ I_Stream_Tries
def SS_Stream_Tries (g : T_Stream_Tries) : Spec A := fun args => match args with | [.box [.d (.sl 3 a1), .d (.int .i64 a2)]] => fun k => g ⟨a1, a2⟩ (fun z0 z1 => k (.arr 127 z0) [.box [.d (.sl 3 z1.f_L), .d (.int .i64 z1.f_at)]]) | _ => fun _ => none
def sh_Stream_Tries_L4 : SSt := mkSh 54 11 [(0, .ptr 0 0), (3, .own 127 1), (4, .int .i64), (7, .int .i64), (8, .int .i64)] [(0, .box [.sl 3, .int .i64]), (1, .row 127)]
def LP_Stream_Tries_L4 (g : C_Stream_Tries) (n : Nat) : LPT A := fun ps => match ps with | [.d (.int .i64 p1), .d (.int .i64 p2), .d (.int .i64 p3), .d (.sl 3 p4), .d (.int .i64 p5), .d (.sl 127 p6)] => fun K => Stream_Tries_L4 g n p1 p2 p3 ⟨p4, p5⟩ p6 (fun z0 z1 => K (.exit 0) (mkSt 54 11 [(0, .ptr 0 0), (3, .own 127 1)] [(0, some (.box [.d (.sl 3 z0.f_L), .d (.int .i64 z0.f_at)])), (1, some (.row 127 z1))])) | _ => fun _ => none
noncomputable def code_36 : Code := (Tryz.f36.body).getD .skip
noncomputable def E_Stream_Tries (g : C_Stream_Tries) : Env A := mkE [(8, SS_Stream_Range g.Stream_Range), (9, SS_Stream_Pick g.Stream_Pick), (42, SS_Stream_Flip g.Stream_Flip), (43, SS_Stream_Some g.Stream_Some), (44, SS_Stream_Odd g.Stream_Odd), (83, SS_slices_SortStableFunc__Try_Stream_Tries_1 g.slices_SortStableFunc__Try_Stream_Tries_1)] [(5, [6]), (12, [2]), (17, [3]), (20, [4]), (23, [5]), (33, [7]), (38, [8]), (48, [9]), (49, [10])] [(4, ⟨[0, 3, 4, 7, 8], [(3, 127, 1)], [0], []⟩)] [(4, ⟨[0, 3], [], [0, 1], []⟩)] [(4, pieceOf sh_Stream_Tries_L4 (LP_Stream_Tries_L4 g g.N))] [] [] [] [(83, 0)] [0]
theorem ct_Stream_Tries [Fuel] : NatTab (E_Stream_Tries I_Stream_Tries).C := ct_of (P := Tryz.prog) (T := T) (.cons ok_Stream_Range (.cons ok_Stream_Pick (.cons ok_Stream_Flip (.cons ok_Stream_Some (.cons ok_Stream_Odd (.cons ok_slices_SortStableFunc__Try_Stream_Tries_1 .nil)))))) (by kernel_rfl)
noncomputable def cb_Stream_Tries_L4 : Code := sub [1, 1, 1, 0, 1, 0, 0] code_36
theorem s_Stream_Tries_L4 (g : C_Stream_Tries) (n : Nat) : StepOk (E_Stream_Tries g) g.N cb_Stream_Tries_L4 sh_Stream_Tries_L4 (LP_Stream_Tries_L4 g) n := by intro ps; unfold LP_Stream_Tries_L4; split; exact .inr fun R K => (by kernel_rfl); exact .inl fun R K => rfl
theorem lf_Stream_Tries_L4 [Fuel] : LoopFine (E_Stream_Tries I_Stream_Tries) NN cb_Stream_Tries_L4 := fine_loop sh_Stream_Tries_L4 (LP_Stream_Tries_L4 I_Stream_Tries) (by kernel_rfl) ct_Stream_Tries (cuts0 (fun _ => rfl) (by kernel_rfl)) (fun ps R K => by unfold LP_Stream_Tries_L4; split <;> (try unfold Stream_Tries_L4) <;> rfl) (s_Stream_Tries_L4 I_Stream_Tries)
theorem sm_Stream_Tries (g : C_Stream_Tries) : Same (SS_Stream_Tries (@Stream_Tries_ g)) (abody (E_Stream_Tries g) Tryz.f36 code_36 11 [0] [.arr 127] g.N) := by intro args; unfold SS_Stream_Tries; split; exact .inr fun R k => (by kernel_rfl); exact .inl fun R k => rfl
theorem ok_Stream_Tries [Fuel] : Ok 36 (SS_Stream_Tries (@Stream_Tries _)) := okF_of std (.cons ok_Stream_Range (.cons ok_Stream_Pick (.cons ok_Stream_Flip (.cons ok_Stream_Some (.cons ok_Stream_Odd (.cons ok_slices_SortStableFunc__Try_Stream_Tries_1 .nil)))))) ⟨rfl, rfl, by kernel_rfl, rfl, rfl, rfl⟩ (sm_Stream_Tries I_Stream_Tries) (cutsL (fun _ => rfl) (.cons lf_Stream_Tries_L4 .nil) (by kernel_rfl)) Tryz.func36 (by kernel_rfl) (by kernel_rfl)
abbrev T_kit_Outside : Type 1 := Int → Int → Int → {R : Type} → (Bool → Option R) → Option R
def kit_Outside_ (g : Nat) (a1 a2 a3 : Int) {R : Type} (k0 : Bool → Option R) : Option R :=
  (bif (decide (a1 < a2)) then k0 true else k0 (decide (a1 > a3)))
noncomputable def kit_Outside [Fuel] : T_kit_Outside := @kit_Outside_ NN
def SS_kit_Outside (g : T_kit_Outside) : Spec A := fun args => match args with | [.d (.int .i64 a1), .d (.int .i64 a2), .d (.int .i64 a3)] => fun k => g a1 a2 a3 (fun z0 => k (.d (.bool z0)) [.undef, .undef, .undef]) | _ => fun _ => none
noncomputable def code_91 : Code := (Tryz.f91.body).getD .skip
noncomputable def E_kit_Outside (g : Nat) : Env A := mkE [] [] [] [] [] [] [] [] [] []
theorem sm_kit_Outside (g : Nat) : Same (SS_kit_Outside (@kit_Outside_ g)) (abody (E_kit_Outside g) Tryz.f91 code_91 0 [] [.asis] g) := by intro args; unfold SS_kit_Outside; split; exact .inr fun R k => (by kernel_rfl); exact .inl fun R k => rfl
theorem ok_kit_Outside [Fuel] : Ok 91 (SS_kit_Outside (@kit_Outside _)) := okF_of std .nil ⟨rfl, rfl, by kernel_rfl, rfl, rfl, rfl⟩ (sm_kit_Outside NN) (cuts0 (fun _ => rfl) (by kernel_rfl)) Tryz.func91 (by kernel_rfl) (by kernel_rfl)
abbrev T_club_isDay : Type 1 := Int → {R : Type} → (Bool → Option R) → Option R
structure C_club_isDay where
  N : Nat
  kit_Outside : T_kit_Outside
def club_isDay_ (g : C_club_isDay) (a1 : Int) {R : Type} (k0 : Bool → Option R) : Option R :=
  (g.kit_Outside a1 0 4000 (fun r2 => k0 (!r2)))
noncomputable def I_club_isDay [Fuel] : C_club_isDay := ⟨NN, @kit_Outside _⟩
noncomputable def club_isDay [Fuel] : T_club_isDay := @club_isDay_ I_club_isDay
def SS_club_isDay (g : T_club_isDay) : Spec A := fun args => match args with | [.d (.int .i64 a1)] => fun k => g a1 (fun z0 => k (.d (.bool z0)) [.undef]) | _ => fun _ => none
noncomputable def code_64 : Code := (Tryz.f64.body).getD .skip
noncomputable def E_club_isDay (g : C_club_isDay) : Env A := mkE [(91, SS_kit_Outside g.kit_Outside)] [] [] [] [] [] [] [] [] []
theorem sm_club_isDay (g : C_club_isDay) : Same (SS_club_isDay (@club_isDay_ g)) (abody (E_club_isDay g) Tryz.f64 code_64 0 [] [.asis] g.N) := by intro args; unfold SS_club_isDay; split; exact .inr fun R k => (by kernel_rfl); exact .inl fun R k => rfl
theorem ok_club_isDay [Fuel] : Ok 64 (SS_club_isDay (@club_isDay _)) := okF_of std (.cons ok_kit_Outside .nil) ⟨rfl, rfl, by kernel_rfl, rfl, rfl, rfl⟩ (sm_club_isDay I_club_isDay) (cuts0 (fun _ => rfl) (by kernel_rfl)) Tryz.func64 (by kernel_rfl) (by kernel_rfl)
abbrev T_call_isLetter : Type 1 := Int → {R : Type} → (Bool → Option R) → Option R
def call_isLetter_ (g : Nat) (a1 : Int) {R : Type} (k0 : Bool → Option R) : Option R :=
  (bif (decide (a1 ≥ 97)) then k0 (decide (a1 ≤ 122)) else k0 false)
noncomputable def call_isLetter [Fuel] : T_call_isLetter := @call_isLetter_ NN
def SS_call_isLetter (g : T_call_isLetter) : Spec A := fun args => match args with | [.d (.int .u8 a1)] => fun k => g a1 (fun z0 => k (.d (.bool z0)) [.undef]) | _ => fun _ => none
noncomputable def code_229 : Code := (Tryz.f229.body).getD .skip
noncomputable def E_call_isLetter (g : Nat) : Env A := mkE [] [] [] [] [] [] [] [] [] []
theorem sm_call_isLetter (g : Nat) : Same (SS_call_isLetter (@call_isLetter_ g)) (abody (E_call_isLetter g) Tryz.f229 code_229 0 [] [.asis] g) := by intro args; unfold SS_call_isLetter; split; exact .inr fun R k => (by kernel_rfl); exact .inl fun R k => rfl
theorem ok_call_isLetter [Fuel] : Ok 229 (SS_call_isLetter (@call_isLetter _)) := okF_of std .nil ⟨rfl, rfl, by kernel_rfl, rfl, rfl, rfl⟩ (sm_call_isLetter NN) (cuts0 (fun _ => rfl) (by kernel_rfl)) Tryz.func229 (by kernel_rfl) (by kernel_rfl)
abbrev T_call_isDigit : Type 1 := Int → {R : Type} → (Bool → Option R) → Option R
def call_isDigit_ (g : Nat) (a1 : Int) {R : Type} (k0 : Bool → Option R) : Option R :=
  (bif (decide (a1 ≥ 48)) then k0 (decide (a1 ≤ 57)) else k0 false)
noncomputable def call_isDigit [Fuel] : T_call_isDigit := @call_isDigit_ NN
def SS_call_isDigit (g : T_call_isDigit) : Spec A := fun args => match args with | [.d (.int .u8 a1)] => fun k => g a1 (fun z0 => k (.d (.bool z0)) [.undef]) | _ => fun _ => none
noncomputable def code_191 : Code := (Tryz.f191.body).getD .skip
noncomputable def E_call_isDigit (g : Nat) : Env A := mkE [] [] [] [] [] [] [] [] [] []
theorem sm_call_isDigit (g : Nat) : Same (SS_call_isDigit (@call_isDigit_ g)) (abody (E_call_isDigit g) Tryz.f191 code_191 0 [] [.asis] g) := by intro args; unfold SS_call_isDigit; split; exact .inr fun R k => (by kernel_rfl); exact .inl fun R k => rfl
theorem ok_call_isDigit [Fuel] : Ok 191 (SS_call_isDigit (@call_isDigit _)) := okF_of std .nil ⟨rfl, rfl, by kernel_rfl, rfl, rfl, rfl⟩ (sm_call_isDigit NN) (cuts0 (fun _ => rfl) (by kernel_rfl)) Tryz.func191 (by kernel_rfl) (by kernel_rfl)
abbrev T_call_isPlain : Type 1 := List UInt8 → {R : Type} → (Int → Bool → Option R) → Option R
structure C_call_isPlain where
  N : Nat
  call_isDigit : T_call_isDigit
  call_isLetter : T_call_isLetter
def call_isPlain_L2 (g : C_call_isPlain) : Nat → List UInt8 → Int → Int → Int → {R : Type} → (Int → Bool → Option R) → (Int → Option R) → Option R
  | 0, _, _, _, _, _, _, _ => none
  | n + 1, v2, v3, v4, v5, _, e0, e1 => (bif (decide (v5 < v4)) then (get_ v2 v5 fun x10 => (g.call_isLetter (x10.toNat : Int) (fun r11 => (bif r11 then call_isPlain_L2 g n v2 (w64 (v3 + 1)) v4 (w64 (v5 + 1)) e0 e1 else (get_ v2 v5 fun x12 => (g.call_isDigit (x12.toNat : Int) (fun r13 => (bif (!r13) then e0 0 false else call_isPlain_L2 g n v2 v3 v4 (w64 (v5 + 1)) e0 e1)))))))) else e1 v3)
def call_isPlain_ (g : C_call_isPlain) (a1 : List UInt8) {R : Type} (k0 : Int → Bool → Option R) : Option R :=
  (call_isPlain_L2 g g.N a1 0 (a1.length : Int) 0 (fun e14 e15 => k0 e14 e15) (fun e16 => k0 e16 true))
noncomputable def I_call_isPlain [Fuel] : C_call_isPlain := ⟨NN, @call_isDigit _, @call_isLetter _⟩
noncomputable def call_isPlain [Fuel] : T_call_isPlain := @call_isPlain_ I_call_isPlain
def SS_call_isPlain (g : T_call_isPlain) : Spec A := fun args => match args with | [.d (.str a1)] => fun k => g a1 (fun z0 z1 => k (.tup [.d (.int .i64 z0), .d (.bool z1)]) [.undef]) | _ => fun _ => none
def sh_call_isPlain_L2 : SSt := mkSh 25 0 [(0, .str), (2, .int .i64), (6, .int .i64), (7, .int .i64)] []
def LP_call_isPlain_L2 (g : C_call_isPlain) (n : Nat) : LPT A := fun ps => match ps with | [.d (.str p1), .d (.int .i64 p2), .d (.int .i64 p3), .d (.int .i64 p4)] => fun K => call_isPlain_L2 g n p1 p2 p3 p4 (fun z0 z1 => K .ret (mkSt 25 0 [(2, .d (.int .i64 z0)), (3, .d (.bool z1))] [])) (fun z0 => K (.exit 0) (mkSt 25 0 [(2, .d (.int .i64 z0))] [])) | _ => fun _ => none
noncomputable def code_190 : Code := (Tryz.f190.body).getD .skip
noncomputable def E_call_isPlain (g : C_call_isPlain) : Env A := mkE [(191, SS_call_isDigit g.call_isDigit), (229, SS_call_isLetter g.call_isLetter)] [] [(2, ⟨[0, 2, 6, 7], [], [], []⟩)] [(2, ⟨[2, 3], [], [], []⟩)] [(2, pieceOf sh_call_isPlain_L2 (LP_call_isPlain_L2 g g.N))] [] [] [] [] []
theorem ct_call_isPlain [Fuel] : NatTab (E_call_isPlain I_call_isPlain).C := ct_of (P := Tryz.prog) (T := T) (.cons ok_call_isDigit (.cons ok_call_isLetter .nil)) (by kernel_rfl)
noncomputable def cb_call_isPlain_L2 : Code := sub [1, 0, 1, 0, 0] code_190
theorem s_call_isPlain_L2 (g : C_call_isPlain) (n : Nat) : StepOk (E_call_isPlain g) g.N cb_call_isPlain_L2 sh_call_isPlain_L2 (LP_call_isPlain_L2 g) n := by intro ps; unfold LP_call_isPlain_L2; split; exact .inr fun R K => (by kernel_rfl); exact .inl fun R K => rfl
theorem lf_call_isPlain_L2 [Fuel] : LoopFine (E_call_isPlain I_call_isPlain) NN cb_call_isPlain_L2 := fine_loop sh_call_isPlain_L2 (LP_call_isPlain_L2 I_call_isPlain) (by kernel_rfl) ct_call_isPlain (cuts0 (fun _ => rfl) (by kernel_rfl)) (fun ps R K => by unfold LP_call_isPlain_L2; split <;> (try unfold call_isPlain_L2) <;> rfl) (s_call_isPlain_L2 I_call_isPlain)
theorem sm_call_isPlain (g : C_call_isPlain) : Same (SS_call_isPlain (@call_isPlain_ g)) (abody (E_call_isPlain g) Tryz.f190 code_190 0 [] [.asis, .asis] g.N) := by intro args; unfold SS_call_isPlain; split; exact .inr fun R k => (by kernel_rfl); exact .inl fun R k => rfl
theorem ok_call_isPlain [Fuel] : Ok 190 (SS_call_isPlain (@call_isPlain _)) := okF_of std (.cons ok_call_isDigit (.cons ok_call_isLetter .nil)) ⟨rfl, rfl, by kernel_rfl, rfl, rfl, rfl⟩ (sm_call_isPlain I_call_isPlain) (cutsL (fun _ => rfl) (.cons lf_call_isPlain_L2 .nil) (by kernel_rfl)) Tryz.func190 (by kernel_rfl) (by kernel_rfl)
abbrev T_strings_IndexRune : Type 1 := List UInt8 → Int → {R : Type} → (Int → Option R) → Option R
def strings_IndexRune [Fuel] : T_strings_IndexRune := @X_ixr
def SS_strings_IndexRune (g : T_strings_IndexRune) : Spec A := SSX_ixr g
theorem ok_strings_IndexRune [Fuel] : Ok 218 (SS_strings_IndexRune (@strings_IndexRune _)) := ⟨ssx_ixr_sound (ixr_sound (fun s r w h0 h1 => Any.strings_IndexRune_ascii Tryz.lays152 s r w h0 h1)), ssx_ixr_nat, enters_of (fn := Tryz.f218) Tryz.func218 (by kernel_rfl) (by kernel_rfl)⟩
abbrev T_strings_shouldUseASCIISet : Type 1 := Int → {R : Type} → (Bool → Option R) → Option R
def strings_shouldUseASCIISet_ (g : Nat) (a1 : Int) {R : Type} (k0 : Bool → Option R) : Option R :=
  k0 (decide (a1 > 8))
noncomputable def strings_shouldUseASCIISet [Fuel] : T_strings_shouldUseASCIISet := @strings_shouldUseASCIISet_ NN
def SS_strings_shouldUseASCIISet (g : T_strings_shouldUseASCIISet) : Spec A := fun args => match args with | [.d (.int .i64 a1)] => fun k => g a1 (fun z0 => k (.d (.bool z0)) [.undef]) | _ => fun _ => none
noncomputable def code_219 : Code := (Tryz.f219.body).getD .skip
noncomputable def E_strings_shouldUseASCIISet (g : Nat) : Env A := mkE [] [] [] [] [] [] [] [] [] []
theorem sm_strings_shouldUseASCIISet (g : Nat) : Same (SS_strings_shouldUseASCIISet (@strings_shouldUseASCIISet_ g)) (abody (E_strings_shouldUseASCIISet g) Tryz.f219 code_219 0 [] [.asis] g) := by intro args; unfold SS_strings_shouldUseASCIISet; split; exact .inr fun R k => (by kernel_rfl); exact .inl fun R k => rfl
theorem ok_strings_shouldUseASCIISet [Fuel] : Ok 219 (SS_strings_shouldUseASCIISet (@strings_shouldUseASCIISet _)) := okF_of std .nil ⟨rfl, rfl, by kernel_rfl, rfl, rfl, rfl⟩ (sm_strings_shouldUseASCIISet NN) (cuts0 (fun _ => rfl) (by kernel_rfl)) Tryz.func219 (by kernel_rfl) (by kernel_rfl)
abbrev T_strings_makeASCIISet : Type 1 := List UInt8 → {R : Type} → Option R
def strings_makeASCIISet_ (g : Nat) (a1 : List UInt8) {R : Type}  : Option R :=
  none
noncomputable def strings_makeASCIISet [Fuel] : T_strings_makeASCIISet := @strings_makeASCIISet_ NN
def SS_strings_makeASCIISet (g : T_strings_makeASCIISet) : Spec A := fun args => match args with | [.d (.str a1)] => fun k => g a1 | _ => fun _ => none
noncomputable def code_156 : Code := (Tryz.f156.body).getD .skip
noncomputable def E_strings_makeASCIISet (g : Nat) : Env A := mkE [] [] [] [] [] [] [] [] [] []
noncomputable def cb_strings_makeASCIISet_L2 : Code := sub [1, 0, 1, 0, 0] code_156
theorem lf_strings_makeASCIISet_L2 [Fuel] : LoopFine (E_strings_makeASCIISet NN) NN cb_strings_makeASCIISet_L2 := no_loop (by kernel_rfl)
theorem sm_strings_makeASCIISet (g : Nat) : Same (SS_strings_makeASCIISet (@strings_makeASCIISet_ g)) (abody (E_strings_makeASCIISet g) Tryz.f156 code_156 0 [] [.asis, .asis] g) := by intro args; unfold SS_strings_makeASCIISet; split; exact .inr fun R k => (by kernel_rfl); exact .inl fun R k => rfl
theorem ok_strings_makeASCIISet [Fuel] : Ok 156 (SS_strings_makeASCIISet (@strings_makeASCIISet _)) := okF_of std .nil ⟨rfl, rfl, by kernel_rfl, rfl, rfl, rfl⟩ (sm_strings_makeASCIISet NN) (cutsL (fun _ => rfl) (.cons lf_strings_makeASCIISet_L2 .nil) (by kernel_rfl)) Tryz.func156 (by kernel_rfl) (by kernel_rfl)
abbrev T_utf8_RuneStart : Type 1 := Int → {R : Type} → Option R
def utf8_RuneStart_ (g : Nat) (a1 : Int) {R : Type}  : Option R :=
  none
noncomputable def utf8_RuneStart [Fuel] : T_utf8_RuneStart := @utf8_RuneStart_ NN
def SS_utf8_RuneStart (g : T_utf8_RuneStart) : Spec A := fun args => match args with | [.d (.int .u8 a1)] => fun k => g a1 | _ => fun _ => none
noncomputable def code_234 : Code := (Tryz.f234.body).getD .skip
noncomputable def E_utf8_RuneStart (g : Nat) : Env A := mkE [] [] [] [] [] [] [] [] [] []
theorem sm_utf8_RuneStart (g : Nat) : Same (SS_utf8_RuneStart (@utf8_RuneStart_ g)) (abody (E_utf8_RuneStart g) Tryz.f234 code_234 0 [] [.asis] g) := by intro args; unfold SS_utf8_RuneStart; split; exact .inr fun R k => (by kernel_rfl); exact .inl fun R k => rfl
theorem ok_utf8_RuneStart [Fuel] : Ok 234 (SS_utf8_RuneStart (@utf8_RuneStart _)) := okF_of std .nil ⟨rfl, rfl, by kernel_rfl, rfl, rfl, rfl⟩ (sm_utf8_RuneStart NN) (cuts0 (fun _ => rfl) (by kernel_rfl)) Tryz.func234 (by kernel_rfl) (by kernel_rfl)
abbrev T_utf8_decodeRuneInStringSlow : Type 1 := List UInt8 → {R : Type} → (Int → Int → Option R) → Option R
def utf8_decodeRuneInStringSlow_ (g : Nat) (a1 : List UInt8) {R : Type} (k0 : Int → Int → Option R) : Option R :=
  (bif (decide ((a1.length : Int) < 1)) then k0 65533 0 else (at_ a1 0 fun x2 => none))
noncomputable def utf8_decodeRuneInStringSlow [Fuel] : T_utf8_decodeRuneInStringSlow := @utf8_decodeRuneInStringSlow_ NN
def SS_utf8_decodeRuneInStringSlow (g : T_utf8_decodeRuneInStringSlow) : Spec A := fun args => match args with | [.d (.str a1)] => fun k => g a1 (fun z0 z1 => k (.tup [.d (.int .i32 z0), .d (.int .i64 z1)]) [.undef]) | _ => fun _ => none
noncomputable def code_233 : Code := (Tryz.f233.body).getD .skip
noncomputable def E_utf8_decodeRuneInStringSlow (g : Nat) : Env A := mkE [] [] [] [] [] [] [] [] [] []
theorem sm_utf8_decodeRuneInStringSlow (g : Nat) : Same (SS_utf8_decodeRuneInStringSlow (@utf8_decodeRuneInStringSlow_ g)) (abody (E_utf8_decodeRuneInStringSlow g) Tryz.f233 code_233 0 [] [.asis, .asis] g) := by intro args; unfold SS_utf8_decodeRuneInStringSlow; split; exact .inr fun R k => (by kernel_rfl); exact .inl fun R k => rfl
theorem ok_utf8_decodeRuneInStringSlow [Fuel] : Ok 233 (SS_utf8_decodeRuneInStringSlow (@utf8_decodeRuneInStringSlow _)) := okF_of std .nil ⟨rfl, rfl, by kernel_rfl, rfl, rfl, rfl⟩ (sm_utf8_decodeRuneInStringSlow NN) (cuts0 (fun _ => rfl) (by kernel_rfl)) Tryz.func233 (by kernel_rfl) (by kernel_rfl)
abbrev T_utf8_DecodeRuneInString : Type 1 := List UInt8 → {R : Type} → (Int → Int → Option R) → Option R
structure C_utf8_DecodeRuneInString where
  N : Nat
  utf8_decodeRuneInStringSlow : T_utf8_decodeRuneInStringSlow
def utf8_DecodeRuneInString_ (g : C_utf8_DecodeRuneInString) (a1 : List UInt8) {R : Type} (k0 : Int → Int → Option R) : Option R :=
  (bif (!(a1 == [])) then (at_ a1 0 fun x2 => (bif (decide ((x2.toNat : Int) < 128)) then (at_ a1 0 fun x3 => k0 (IntKind.i32.wrap (x3.toNat : Int)) 1) else (g.utf8_decodeRuneInStringSlow a1 (fun r4 r5 => k0 r4 r5)))) else (g.utf8_decodeRuneInStringSlow a1 (fun r6 r7 => k0 r6 r7)))
noncomputable def I_utf8_DecodeRuneInString [Fuel] : C_utf8_DecodeRuneInString := ⟨NN, @utf8_decodeRuneInStringSlow _⟩
noncomputable def utf8_DecodeRuneInString [Fuel] : T_utf8_DecodeRuneInString := @utf8_DecodeRuneInString_ I_utf8_DecodeRuneInString
def SS_utf8_DecodeRuneInString (g : T_utf8_DecodeRuneInString) : Spec A := fun args => match args with | [.d (.str a1)] => fun k => g a1 (fun z0 z1 => k (.tup [.d (.int .i32 z0), .d (.int .i64 z1)]) [.undef]) | _ => fun _ => none
noncomputable def code_203 : Code := (Tryz.f203.body).getD .skip
noncomputable def E_utf8_DecodeRuneInString (g : C_utf8_DecodeRuneInString) : Env A := mkE [(233, SS_utf8_decodeRuneInStringSlow g.utf8_decodeRuneInStringSlow)] [] [] [] [] [] [] [] [] []
theorem sm_utf8_DecodeRuneInString (g : C_utf8_DecodeRuneInString) : Same (SS_utf8_DecodeRuneInString (@utf8_DecodeRuneInString_ g)) (abody (E_utf8_DecodeRuneInString g) Tryz.f203 code_203 0 [] [.asis, .asis] g.N) := by intro args; unfold SS_utf8_DecodeRuneInString; split; exact .inr fun R k => (by kernel_rfl); exact .inl fun R k => rfl
theorem ok_utf8_DecodeRuneInString [Fuel] : Ok 203 (SS_utf8_DecodeRuneInString (@utf8_DecodeRuneInString _)) := okF_of std (.cons ok_utf8_decodeRuneInStringSlow .nil) ⟨rfl, rfl, by kernel_rfl, rfl, rfl, rfl⟩ (sm_utf8_DecodeRuneInString I_utf8_DecodeRuneInString) (cuts0 (fun _ => rfl) (by kernel_rfl)) Tryz.func203 (by kernel_rfl) (by kernel_rfl)
abbrev T_utf8_DecodeLastRuneInString : Type 1 := List UInt8 → {R : Type} → (Int → Int → Option R) → Option R
structure C_utf8_DecodeLastRuneInString where
  N : Nat
  utf8_DecodeRuneInString : T_utf8_DecodeRuneInString
  utf8_RuneStart : T_utf8_RuneStart
def utf8_DecodeLastRuneInString_L10 (g : C_utf8_DecodeLastRuneInString) : Nat → List UInt8 → Int → Int → Int → {R : Type} → (List UInt8 → Int → Int → Option R) → Option R
  | 0, _, _, _, _, _, _ => none
  | n + 1, v3, v4, v5, v6, _, e0 => (bif (decide (v5 ≥ v6)) then (get_ v3 v5 fun x8 => (g.utf8_RuneStart (x8.toNat : Int))) else e0 v3 v4 v5)
def utf8_DecodeLastRuneInString_ (g : C_utf8_DecodeLastRuneInString) (a1 : List UInt8) {R : Type} (k0 : Int → Int → Option R) : Option R :=
  (bif ((a1.length : Int) == 0) then k0 65533 0 else (get_ a1 (w64 ((a1.length : Int) - 1)) fun x2 => (bif (decide ((IntKind.i32.wrap (x2.toNat : Int)) < 128)) then k0 (IntKind.i32.wrap (x2.toNat : Int)) 1 else (utf8_DecodeLastRuneInString_L10 g g.N a1 (a1.length : Int) (w64 ((w64 ((a1.length : Int) - 1)) - 1)) (if 0 > (w64 ((a1.length : Int) - 4)) then 0 else (w64 ((a1.length : Int) - 4))) (fun e9 e10 e11 => (bif (decide (e11 < 0)) then (bif (decide (0 ≤ 0) && (decide (0 ≤ e10) && decide (e10 ≤ (e9.length : Int)))) then (g.utf8_DecodeRuneInString ((e9.take (e10 : Int).toNat).drop (0 : Int).toNat) (fun r12 r13 => (bif ((w64 (0 + r13)) != e10) then k0 65533 1 else k0 r12 r13))) else none) else (bif (decide (0 ≤ e11) && (decide (e11 ≤ e10) && decide (e10 ≤ (e9.length : Int)))) then (g.utf8_DecodeRuneInString ((e9.take (e10 : Int).toNat).drop (e11 : Int).toNat) (fun r14 r15 => (bif ((w64 (e11 + r15)) != e10) then k0 65533 1 else k0 r14 r15))) else none)))))))
noncomputable def I_utf8_DecodeLastRuneInString [Fuel] : C_utf8_DecodeLastRuneInString := ⟨NN, @utf8_DecodeRuneInString _, @utf8_RuneStart _⟩
noncomputable def utf8_DecodeLastRuneInString [Fuel] : T_utf8_DecodeLastRuneInString := @utf8_DecodeLastRuneInString_ I_utf8_DecodeLastRuneInString
def SS_utf8_DecodeLastRuneInString (g : T_utf8_DecodeLastRuneInString) : Spec A := fun args => match args with | [.d (.str a1)] => fun k => g a1 (fun z0 z1 => k (.tup [.d (.int .i32 z0), .d (.int .i64 z1)]) [.undef]) | _ => fun _ => none
def sh_utf8_DecodeLastRuneInString_L10 : SSt := mkSh 51 0 [(0, .str), (4, .int .i64), (5, .int .i64), (6, .int .i64)] []
def LP_utf8_DecodeLastRuneInString_L10 (g : C_utf8_DecodeLastRuneInString) (n : Nat) : LPT A := fun ps => match ps with | [.d (.str p1), .d (.int .i64 p2), .d (.int .i64 p3), .d (.int .i64 p4)] => fun K => utf8_DecodeLastRuneInString_L10 g n p1 p2 p3 p4 (fun z0 z1 z2 => K (.exit 0) (mkSt 51 0 [(0, .d (.str z0)), (4, .d (.int .i64 z1)), (5, .d (.int .i64 z2))] [])) | _ => fun _ => none
noncomputable def code_205 : Code := (Tryz.f205.body).getD .skip
noncomputable def E_utf8_DecodeLastRuneInString (g : C_utf8_DecodeLastRuneInString) : Env A := mkE [(203, SS_utf8_DecodeRuneInString g.utf8_DecodeRuneInString), (234, SS_utf8_RuneStart g.utf8_RuneStart)] [] [(10, ⟨[0, 4, 5, 6], [], [], []⟩)] [(10, ⟨[0, 4, 5], [], [], []⟩)] [(10, pieceOf sh_utf8_DecodeLastRuneInString_L10 (LP_utf8_DecodeLastRuneInString_L10 g g.N))] [] [] [] [] []
theorem ct_utf8_DecodeLastRuneInString [Fuel] : NatTab (E_utf8_DecodeLastRuneInString I_utf8_DecodeLastRuneInString).C := ct_of (P := Tryz.prog) (T := T) (.cons ok_utf8_DecodeRuneInString (.cons ok_utf8_RuneStart .nil)) (by kernel_rfl)
noncomputable def cb_utf8_DecodeLastRuneInString_L10 : Code := sub [1, 1, 1, 1, 1, 1, 1, 0, 1, 0, 0] code_205
theorem s_utf8_DecodeLastRuneInString_L10 (g : C_utf8_DecodeLastRuneInString) (n : Nat) : StepOk (E_utf8_DecodeLastRuneInString g) g.N cb_utf8_DecodeLastRuneInString_L10 sh_utf8_DecodeLastRuneInString_L10 (LP_utf8_DecodeLastRuneInString_L10 g) n := by intro ps; unfold LP_utf8_DecodeLastRuneInString_L10; split; exact .inr fun R K => (by kernel_rfl); exact .inl fun R K => rfl
theorem lf_utf8_DecodeLastRuneInString_L10 [Fuel] : LoopFine (E_utf8_DecodeLastRuneInString I_utf8_DecodeLastRuneInString) NN cb_utf8_DecodeLastRuneInString_L10 := fine_loop sh_utf8_DecodeLastRuneInString_L10 (LP_utf8_DecodeLastRuneInString_L10 I_utf8_DecodeLastRuneInString) (by kernel_rfl) ct_utf8_DecodeLastRuneInString (cuts0 (fun _ => rfl) (by kernel_rfl)) (fun ps R K => by unfold LP_utf8_DecodeLastRuneInString_L10; split <;> (try unfold utf8_DecodeLastRuneInString_L10) <;> rfl) (s_utf8_DecodeLastRuneInString_L10 I_utf8_DecodeLastRuneInString)
theorem sm_utf8_DecodeLastRuneInString (g : C_utf8_DecodeLastRuneInString) : Same (SS_utf8_DecodeLastRuneInString (@utf8_DecodeLastRuneInString_ g)) (abody (E_utf8_DecodeLastRuneInString g) Tryz.f205 code_205 0 [] [.asis, .asis] g.N) := by intro args; unfold SS_utf8_DecodeLastRuneInString; split; exact .inr fun R k => (by kernel_rfl); exact .inl fun R k => rfl
theorem ok_utf8_DecodeLastRuneInString [Fuel] : Ok 205 (SS_utf8_DecodeLastRuneInString (@utf8_DecodeLastRuneInString _)) := okF_of std (.cons ok_utf8_DecodeRuneInString (.cons ok_utf8_RuneStart .nil)) ⟨rfl, rfl, by kernel_rfl, rfl, rfl, rfl⟩ (sm_utf8_DecodeLastRuneInString I_utf8_DecodeLastRuneInString) (cutsL (fun _ => rfl) (.cons lf_utf8_DecodeLastRuneInString_L10 .nil) (by kernel_rfl)) Tryz.func205 (by kernel_rfl) (by kernel_rfl)
end Go.Am
