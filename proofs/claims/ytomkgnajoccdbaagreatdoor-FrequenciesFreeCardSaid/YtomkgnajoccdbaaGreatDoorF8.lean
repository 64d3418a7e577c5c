/- The functions of the program as Lean functions, each shown to be what the code computes, part 8. No condition: lemmas for the claim. -/
import Derived.Test.YtomkgnajoccdbaaGreatDoorF0
import Derived.Test.YtomkgnajoccdbaaGreatDoorFSh
import Derived.Test.YtomkgnajoccdbaaGreatDoorF7
set_option linter.unusedVariables false
set_option maxRecDepth 100000
namespace Go.Am
open Go Go.Proofs
abbrev T_slices_Concat__Row : Type 1 := List (List G_Row) → {R : Type} → (List G_Row → Option R) → Option R
structure C_slices_Concat__Row where
  N : Nat
  slices_Grow__Row_n0 : T_slices_Grow__Row_n0
def slices_Concat__Row_L3 (g : C_slices_Concat__Row) : Nat → List (List G_Row) → Int → List (List G_Row) → Int → Int → {R : Type} → (List (List G_Row) → Int → Option R) → Option R
  | 0, _, _, _, _, _, _, _ => none
  | n + 1, v2, v3, v4, v5, v6, _, e0 => (bif (decide (v6 < v5)) then (get_ v4 v6 fun x8 => (bif (decide ((w64 (v3 + (x8.length : Int))) < 0)) then none else slices_Concat__Row_L3 g n v2 (w64 (v3 + (x8.length : Int))) v4 v5 (w64 (v6 + 1)) e0)) else e0 v2 v3)
def slices_Concat__Row_L11 (g : C_slices_Concat__Row) : Nat → List (List G_Row) → Int → Int → List G_Row → {R : Type} → (List G_Row → Option R) → Option R
  | 0, _, _, _, _, _, _ => none
  | n + 1, v12, v13, v14, v15, _, e0 => (bif (decide (v14 < v13)) then (get_ v12 v14 fun x17 => (bif (decide ((v15.length + x17.length) * 16 ≤ roomBytes')) then slices_Concat__Row_L11 g n v12 v13 (w64 (v14 + 1)) (v15 ++ x17) e0 else none)) else e0 v15)
def slices_Concat__Row_ (g : C_slices_Concat__Row) (a1 : List (List G_Row)) {R : Type} (k0 : List G_Row → Option R) : Option R :=
  (slices_Concat__Row_L3 g g.N a1 0 a1 (a1.length : Int) 0 (fun e9 e10 => (g.slices_Grow__Row_n0 e10 (fun r11 => (slices_Concat__Row_L11 g g.N e9 (e9.length : Int) 0 r11 (fun e18 => k0 e18))))))
noncomputable def I_slices_Concat__Row [Fuel] : C_slices_Concat__Row := ⟨NN, @slices_Grow__Row_n0 _⟩
noncomputable def slices_Concat__Row [Fuel] : T_slices_Concat__Row := @slices_Concat__Row_ I_slices_Concat__Row
def SS_slices_Concat__Row (g : T_slices_Concat__Row) : Spec A := fun args => match args with | [.d (.sl 62 a1)] => fun k => g a1 (fun z0 => k (.arr 80 z0) [.undef]) | _ => fun _ => none
def sh_slices_Concat__Row_L3 : SSt := mkSh 36 3 [(0, .sl 62), (3, .int .i64), (9, .sl 62), (10, .int .i64), (11, .int .i64)] []
def LP_slices_Concat__Row_L3 (g : C_slices_Concat__Row) (n : Nat) : LPT A := fun ps => match ps with | [.d (.sl 62 p1), .d (.int .i64 p2), .d (.sl 62 p3), .d (.int .i64 p4), .d (.int .i64 p5)] => fun K => slices_Concat__Row_L3 g n p1 p2 p3 p4 p5 (fun z0 z1 => K (.exit 0) (mkSt 36 3 [(0, .d (.sl 62 z0)), (3, .d (.int .i64 z1))] [])) | _ => fun _ => none
def sh_slices_Concat__Row_L11 : SSt := mkSh 36 3 [(6, .own 80 1), (25, .sl 62), (26, .int .i64), (27, .int .i64)] [(1, .row 80)]
def LP_slices_Concat__Row_L11 (g : C_slices_Concat__Row) (n : Nat) : LPT A := fun ps => match ps with | [.d (.sl 62 p1), .d (.int .i64 p2), .d (.int .i64 p3), .d (.sl 80 p4)] => fun K => slices_Concat__Row_L11 g n p1 p2 p3 p4 (fun z0 => K (.exit 2) (mkSt 36 3 [(6, .own 80 1)] [(1, some (.row 80 z0))])) | _ => fun _ => none
noncomputable def code_132 : Code := (Tryz.f132.body).getD .skip
noncomputable def E_slices_Concat__Row (g : C_slices_Concat__Row) : Env A := mkE [(184, SS_slices_Grow__Row_n0 g.slices_Grow__Row_n0)] [(24, [0]), (33, [2])] [(3, ⟨[0, 3, 9, 10, 11], [], [], []⟩), (11, ⟨[6, 25, 26, 27], [(6, 80, 1)], [], []⟩)] [(3, ⟨[0, 3], [], [], []⟩), (11, ⟨[6], [], [1], []⟩)] [(3, pieceOf sh_slices_Concat__Row_L3 (LP_slices_Concat__Row_L3 g g.N)), (11, pieceOf sh_slices_Concat__Row_L11 (LP_slices_Concat__Row_L11 g g.N))] [] [] [] [(184, 0)] []
theorem ct_slices_Concat__Row [Fuel] : NatTab (E_slices_Concat__Row I_slices_Concat__Row).C := ct_of (P := Tryz.prog) (T := T) (.cons ok_slices_Grow__Row_n0 .nil) (by kernel_rfl)
noncomputable def cb_slices_Concat__Row_L3 : Code := sub [1, 1, 0, 1, 0, 0] code_132
theorem s_slices_Concat__Row_L3 (g : C_slices_Concat__Row) (n : Nat) : StepOk (E_slices_Concat__Row g) g.N cb_slices_Concat__Row_L3 sh_slices_Concat__Row_L3 (LP_slices_Concat__Row_L3 g) n := by intro ps; unfold LP_slices_Concat__Row_L3; split; exact .inr fun R K => (by kernel_rfl); exact .inl fun R K => rfl
theorem lf_slices_Concat__Row_L3 [Fuel] : LoopFine (E_slices_Concat__Row I_slices_Concat__Row) NN cb_slices_Concat__Row_L3 := fine_loop sh_slices_Concat__Row_L3 (LP_slices_Concat__Row_L3 I_slices_Concat__Row) (by kernel_rfl) ct_slices_Concat__Row (cuts0 (fun _ => rfl) (by kernel_rfl)) (fun ps R K => by unfold LP_slices_Concat__Row_L3; split <;> (try unfold slices_Concat__Row_L3) <;> rfl) (s_slices_Concat__Row_L3 I_slices_Concat__Row)
noncomputable def cb_slices_Concat__Row_L11 : Code := sub [1, 1, 1, 1, 0, 1, 0, 0] code_132
theorem s_slices_Concat__Row_L11 (g : C_slices_Concat__Row) (n : Nat) : StepOk (E_slices_Concat__Row g) g.N cb_slices_Concat__Row_L11 sh_slices_Concat__Row_L11 (LP_slices_Concat__Row_L11 g) n := by intro ps; unfold LP_slices_Concat__Row_L11; split; exact .inr fun R K => (by kernel_rfl); exact .inl fun R K => rfl
theorem lf_slices_Concat__Row_L11 [Fuel] : LoopFine (E_slices_Concat__Row I_slices_Concat__Row) NN cb_slices_Concat__Row_L11 := fine_loop sh_slices_Concat__Row_L11 (LP_slices_Concat__Row_L11 I_slices_Concat__Row) (by kernel_rfl) ct_slices_Concat__Row (cuts0 (fun _ => rfl) (by kernel_rfl)) (fun ps R K => by unfold LP_slices_Concat__Row_L11; split <;> (try unfold slices_Concat__Row_L11) <;> rfl) (s_slices_Concat__Row_L11 I_slices_Concat__Row)
theorem sm_slices_Concat__Row (g : C_slices_Concat__Row) : Same (SS_slices_Concat__Row (@slices_Concat__Row_ g)) (abody (E_slices_Concat__Row g) Tryz.f132 code_132 3 [] [.arr 80] g.N) := by intro args; unfold SS_slices_Concat__Row; split; exact .inr fun R k => (by kernel_rfl); exact .inl fun R k => rfl
theorem ok_slices_Concat__Row [Fuel] : Ok 132 (SS_slices_Concat__Row (@slices_Concat__Row _)) := okF_of std (.cons ok_slices_Grow__Row_n0 .nil) ⟨rfl, rfl, by kernel_rfl, rfl, rfl, rfl⟩ (sm_slices_Concat__Row I_slices_Concat__Row) (cutsL (fun _ => rfl) (.cons lf_slices_Concat__Row_L3 (.cons lf_slices_Concat__Row_L11 .nil)) (by kernel_rfl)) Tryz.func132 (by kernel_rfl) (by kernel_rfl)
abbrev T_slices_Sort__int : Type 1 := List Int → {R : Type} → (List Int → Option R) → Option R
def slices_Sort__int [Fuel] : T_slices_Sort__int := @X_sorto Int srtI
def SS_slices_Sort__int (g : T_slices_Sort__int) : Spec A := fun args => match args with | [.arr 3 a1] => fun k => g a1 (fun z => k (.tup []) [.arr 3 z]) | _ => fun _ => none
theorem h1_slices_Sort__int [Fuel] (xs : List (A 3)) (R : Type) (k : IV A → List (IV A) → Option R) : SS_slices_Sort__int (@slices_Sort__int _) [.arr 3 xs] k = X_sorto (α := A 3) srtI xs (fun z => k (.tup []) [.arr 3 z]) := by kernel_rfl
theorem h2_slices_Sort__int [Fuel] (args : List (IV A)) (R : Type) (k : IV A → List (IV A) → Option R) (h : ∀ xs : List (A 3), args ≠ [.arr 3 xs]) : SS_slices_Sort__int (@slices_Sort__int _) args k = none := by unfold SS_slices_Sort__int; split; exact absurd rfl (h _); rfl
theorem hv_slices_Sort__int (x : Int) : ∃ d, T.enc 3 x = [d] ∧ scal d = true ∧ (Value.int .i64) x = valD d := ⟨.int .i64 x, rfl, rfl, rfl⟩
theorem ok_slices_Sort__int [Fuel] : Ok 61 (SS_slices_Sort__int (@slices_Sort__int _)) := ⟨sorto_sound (tyOk Tryz.prog) (e := 3) (inferInstanceAs (Inhabited Int)) (Value.int .i64) srtI (fun xs => List.length_mergeSort xs) hv_slices_Sort__int rfl (fun b c xs w h1 h2 h3 => Go.Proofs.Any.slices_Sort_int Tryz.lays189 b 0 c xs w h1 h2 h3) (fun p c w => Go.Proofs.Any.slices_Sort_int_none Tryz.lays189 p c w) h1_slices_Sort__int h2_slices_Sort__int, sorto_na (e := 3) h1_slices_Sort__int h2_slices_Sort__int, enters_of (fn := Tryz.f61) Tryz.func61 (by kernel_rfl) (by kernel_rfl)⟩
abbrev T_slices_Compact__int : Type 1 := List Int → {R : Type} → (List Int → Option R) → Option R
def slices_Compact__int_L9 (g : Nat) : Nat → Int → Int → Int → Int → List Int → {R : Type} → (Int → List Int → Option R) → Option R
  | 0, _, _, _, _, _, _, _ => none
  | n + 1, v23, v24, v25, v26, v27, _, e0 => (bif (decide (v26 < ((v25 - v24).toNat : Int))) then (bif (decide (0 ≤ v26) && (decide (v26 < v25 - v24) && decide (v24 + v26 < (v27.length : Int)))) then (at_ v27 (v24 + v26) fun x32 => (bif (decide (0 ≤ (w64 (v26 - 1))) && (decide ((w64 (v26 - 1)) < v25 - v24) && decide (v24 + (w64 (v26 - 1)) < (v27.length : Int)))) then (at_ v27 (v24 + (w64 (v26 - 1))) fun x33 => (bif (x32 != x33) then (bif (decide (0 ≤ v26) && (decide (v26 < v25 - v24) && decide (v24 + v26 < (v27.length : Int)))) then (at_ v27 (v24 + v26) fun x34 => (inr v27 v23 (at_ v27 v23 fun x35 => slices_Compact__int_L9 g n (w64 (v23 + 1)) v24 v25 (w64 (v26 + 1)) (set_ v27 v23 x34) e0))) else none) else slices_Compact__int_L9 g n v23 v24 v25 (w64 (v26 + 1)) v27 e0)) else none)) else none) else e0 v23 v27)
def slices_Compact__int_L4 (g : Nat) : Nat → Int → List Int → {R : Type} → (List Int → Option R) → (List Int → Option R) → Option R
  | 0, _, _, _, _, _ => none
  | n + 1, v2, v3, _, e0, e1 => (bif (decide (v2 < (v3.length : Int))) then (inr v3 v2 (at_ v3 v2 fun x21 => (inr v3 (w64 (v2 - 1)) (at_ v3 (w64 (v2 - 1)) fun x22 => (bif (x21 == x22) then (bif (decide (0 < v3.length) && (decide (0 ≤ v2) && decide (v2 ≤ (v3.length : Int)))) then (slices_Compact__int_L9 g g v2 v2 (v3.length : Int) 1 v3 (fun e36 e37 => (bif (decide (0 < e37.length) && (decide (0 ≤ e36) && decide (e36 ≤ (e37.length : Int)))) then (bif (decide (0 ≤ e36) && (decide (e36 ≤ (e37.length : Int)) && decide (((e37.length : Int)).toNat ≤ e37.length))) then (bif (decide (0 ≤ e36) && decide (e36 ≤ ((e37.take (e36).toNat ++ (List.replicate ((e37.length : Int) - e36).toNat 0 ++ e37.drop ((e37.length : Int)).toNat)).length : Int))) then e0 ((e37.take (e36).toNat ++ (List.replicate ((e37.length : Int) - e36).toNat 0 ++ e37.drop ((e37.length : Int)).toNat)).take (e36 : Int).toNat) else none) else none) else none))) else none) else slices_Compact__int_L4 g n (w64 (v2 + 1)) v3 e0 e1))))) else e1 v3)
def slices_Compact__int_ (g : Nat) (a1 : List Int) {R : Type} (k0 : List Int → Option R) : Option R :=
  (bif (decide ((a1.length : Int) < 2)) then k0 a1 else (slices_Compact__int_L4 g g 1 a1 (fun e38 => k0 e38) (fun e39 => k0 e39)))
noncomputable def slices_Compact__int [Fuel] : T_slices_Compact__int := @slices_Compact__int_ NN
def SS_slices_Compact__int (g : T_slices_Compact__int) : Spec A := fun args => match args with | [.arr 3 a1] => fun k => g a1 (fun z0 => k (.arr 3 z0) [.undef]) | _ => fun _ => none
def sh_slices_Compact__int_L9 : SSt := mkSh 61 6 [(0, .own 3 0), (3, .int .i64), (4, .vw 3 0), (5, .int .i64)] [(0, .row 3)]
def LP_slices_Compact__int_L9 (g : Nat) (n : Nat) : LPT A := fun ps => match ps with | [.d (.int .i64 p1), .z p2, .z p3, .d (.int .i64 p4), .d (.sl 3 p5)] => fun K => slices_Compact__int_L9 g n p1 p2 p3 p4 p5 (fun z0 z1 => K (.exit 2) (mkSt 61 6 [(0, .own 3 0), (3, .d (.int .i64 z0))] [(0, some (.row 3 z1))])) | _ => fun _ => none
def sh_slices_Compact__int_L4 : SSt := mkSh 61 6 [(0, .own 3 0), (3, .int .i64)] [(0, .row 3)]
def LP_slices_Compact__int_L4 (g : Nat) (n : Nat) : LPT A := fun ps => match ps with | [.d (.int .i64 p1), .d (.sl 3 p2)] => fun K => slices_Compact__int_L4 g n p1 p2 (fun z0 => K .ret (mkSt 61 6 [(0, .own 3 0), (2, .own 3 5)] [(5, some (.row 3 z0))])) (fun z0 => K (.exit 0) (mkSt 61 6 [(0, .own 3 0)] [(0, some (.row 3 z0))])) | _ => fun _ => none
noncomputable def code_133 : Code := (Tryz.f133.body).getD .skip
noncomputable def E_slices_Compact__int (g : Nat) : Env A := mkE [] [(28, [1, 2]), (56, [3, 4]), (59, [5])] [(9, ⟨[0, 3, 4, 5], [], [0], []⟩), (4, ⟨[0, 3], [], [0], []⟩)] [(9, ⟨[0, 3], [], [0], []⟩), (4, ⟨[0, 2], [], [0, 5], []⟩)] [(9, pieceOf sh_slices_Compact__int_L9 (LP_slices_Compact__int_L9 g g)), (4, pieceOf sh_slices_Compact__int_L4 (LP_slices_Compact__int_L4 g g))] [] [] [] [] []
theorem ct_slices_Compact__int [Fuel] : NatTab (E_slices_Compact__int NN).C := ct_of (P := Tryz.prog) (T := T) .nil (by kernel_rfl)
noncomputable def cb_slices_Compact__int_L9 : Code := sub [1, 1, 0, 1, 0, 0, 1, 0, 0, 1, 0, 1, 0, 1, 0, 0] code_133
theorem s_slices_Compact__int_L9 (g : Nat) (n : Nat) : StepOk (E_slices_Compact__int g) g cb_slices_Compact__int_L9 sh_slices_Compact__int_L9 (LP_slices_Compact__int_L9 g) n := by intro ps; unfold LP_slices_Compact__int_L9; split; exact .inr fun R K => (by kernel_rfl); exact .inl fun R K => rfl
theorem lf_slices_Compact__int_L9 [Fuel] : LoopFine (E_slices_Compact__int NN) NN cb_slices_Compact__int_L9 := fine_loop sh_slices_Compact__int_L9 (LP_slices_Compact__int_L9 NN) (by kernel_rfl) ct_slices_Compact__int (cuts0 (fun _ => rfl) (by kernel_rfl)) (fun ps R K => by unfold LP_slices_Compact__int_L9; split <;> (try unfold slices_Compact__int_L9) <;> rfl) (s_slices_Compact__int_L9 NN)
noncomputable def cb_slices_Compact__int_L4 : Code := sub [1, 1, 0, 1, 0, 0] code_133
theorem s_slices_Compact__int_L4 (g : Nat) (n : Nat) : StepOk (E_slices_Compact__int g) g cb_slices_Compact__int_L4 sh_slices_Compact__int_L4 (LP_slices_Compact__int_L4 g) n := by intro ps; unfold LP_slices_Compact__int_L4; split; exact .inr fun R K => (by kernel_rfl); exact .inl fun R K => rfl
theorem lf_slices_Compact__int_L4 [Fuel] : LoopFine (E_slices_Compact__int NN) NN cb_slices_Compact__int_L4 := fine_loop sh_slices_Compact__int_L4 (LP_slices_Compact__int_L4 NN) (by kernel_rfl) ct_slices_Compact__int (cutsL (fun _ => rfl) (.cons lf_slices_Compact__int_L9 .nil) (by kernel_rfl)) (fun ps R K => by unfold LP_slices_Compact__int_L4; split <;> (try unfold slices_Compact__int_L4) <;> rfl) (s_slices_Compact__int_L4 NN)
theorem sm_slices_Compact__int (g : Nat) : Same (SS_slices_Compact__int (@slices_Compact__int_ g)) (abody (E_slices_Compact__int g) Tryz.f133 code_133 6 [0] [.arr 3] g) := by intro args; unfold SS_slices_Compact__int; split; exact .inr fun R k => (by kernel_rfl); exact .inl fun R k => rfl
theorem ok_slices_Compact__int [Fuel] : Ok 133 (SS_slices_Compact__int (@slices_Compact__int _)) := okF_of std .nil ⟨rfl, rfl, by kernel_rfl, rfl, rfl, rfl⟩ (sm_slices_Compact__int NN) (cutsL (fun _ => rfl) (.cons lf_slices_Compact__int_L9 (.cons lf_slices_Compact__int_L4 .nil)) (by kernel_rfl)) Tryz.func133 (by kernel_rfl) (by kernel_rfl)
abbrev T_Q_rowsOf_1_1 : Type 1 := G_Row → Int → {R : Type} → (Bool → Int → Option R) → Option R
def Q_rowsOf_1_1_ (g : Nat) (a1 : G_Row) (a2 : Int) {R : Type} (k0 : Bool → Int → Option R) : Option R :=
  (bif (decide (a1.f_From ≤ a2)) then k0 (decide (a2 < a1.f_To)) a2 else k0 false a2)
noncomputable def Q_rowsOf_1_1 [Fuel] : T_Q_rowsOf_1_1 := @Q_rowsOf_1_1_ NN
def SS_Q_rowsOf_1_1 (g : T_Q_rowsOf_1_1) : Spec A := fun args => match args with | [.agg [.d (.int .i64 a1), .d (.int .i64 a2)], .box [.d (.int .i64 a3)]] => fun k => g ⟨a1, a2⟩ a3 (fun z0 z1 => k (.d (.bool z0)) [.undef, .box [.d (.int .i64 z1)]]) | _ => fun _ => none
noncomputable def code_136 : Code := (Tryz.f136.body).getD .skip
noncomputable def E_Q_rowsOf_1_1 (g : Nat) : Env A := mkE [] [(2, [1])] [] [] [] [] [] [] [] [1]
theorem sm_Q_rowsOf_1_1 (g : Nat) : Same (SS_Q_rowsOf_1_1 (@Q_rowsOf_1_1_ g)) (abody (E_Q_rowsOf_1_1 g) Tryz.f136 code_136 2 [0] [.asis] g) := by intro args; unfold SS_Q_rowsOf_1_1; split; exact .inr fun R k => (by kernel_rfl); exact .inl fun R k => rfl
theorem ok_Q_rowsOf_1_1 [Fuel] : Ok 136 (SS_Q_rowsOf_1_1 (@Q_rowsOf_1_1 _)) := okF_of std .nil ⟨rfl, rfl, by kernel_rfl, rfl, rfl, rfl⟩ (sm_Q_rowsOf_1_1 NN) (cuts0 (fun _ => rfl) (by kernel_rfl)) Tryz.func136 (by kernel_rfl) (by kernel_rfl)
abbrev T_slices_IndexFunc__Row_Q_rowsOf_1_1 : Type 1 := List G_Row → Int → {R : Type} → (Int → Int → Option R) → Option R
structure C_slices_IndexFunc__Row_Q_rowsOf_1_1 where
  N : Nat
  Q_rowsOf_1_1 : T_Q_rowsOf_1_1
def slices_IndexFunc__Row_Q_rowsOf_1_1_L2 (g : C_slices_IndexFunc__Row_Q_rowsOf_1_1) : Nat → List G_Row → Int → Int → Int → {R : Type} → (Int → Int → Option R) → (Int → Option R) → Option R
  | 0, _, _, _, _, _, _, _ => none
  | n + 1, v3, v4, v5, v6, _, e0, e1 => (bif (decide (v5 < v4)) then (get_ v3 v5 fun x10 => (g.Q_rowsOf_1_1 x10 v6 (fun r11 r12 => (bif r11 then e0 v5 r12 else slices_IndexFunc__Row_Q_rowsOf_1_1_L2 g n v3 v4 (w64 (v5 + 1)) r12 e0 e1)))) else e1 v6)
def slices_IndexFunc__Row_Q_rowsOf_1_1_ (g : C_slices_IndexFunc__Row_Q_rowsOf_1_1) (a1 : List G_Row) (a2 : Int) {R : Type} (k0 : Int → Int → Option R) : Option R :=
  (slices_IndexFunc__Row_Q_rowsOf_1_1_L2 g g.N a1 (a1.length : Int) 0 a2 (fun e13 e14 => k0 e13 e14) (fun e15 => k0 (-1) e15))
noncomputable def I_slices_IndexFunc__Row_Q_rowsOf_1_1 [Fuel] : C_slices_IndexFunc__Row_Q_rowsOf_1_1 := ⟨NN, @Q_rowsOf_1_1 _⟩
noncomputable def slices_IndexFunc__Row_Q_rowsOf_1_1 [Fuel] : T_slices_IndexFunc__Row_Q_rowsOf_1_1 := @slices_IndexFunc__Row_Q_rowsOf_1_1_ I_slices_IndexFunc__Row_Q_rowsOf_1_1
def SS_slices_IndexFunc__Row_Q_rowsOf_1_1 (g : T_slices_IndexFunc__Row_Q_rowsOf_1_1) : Spec A := fun args => match args with | [.d (.sl 80 a1), .fn 136 [.box [.d (.int .i64 a2)]]] => fun k => g a1 a2 (fun z0 z1 => k (.d (.int .i64 z0)) [.undef, .fn 136 [.box [.d (.int .i64 z1)]]]) | _ => fun _ => none
def sh_slices_IndexFunc__Row_Q_rowsOf_1_1_L2 : SSt := mkSh 19 1 [(0, .sl 80), (1, .fn 136 [.ptr 0 0]), (7, .int .i64), (8, .int .i64)] [(0, .box [.int .i64])]
def LP_slices_IndexFunc__Row_Q_rowsOf_1_1_L2 (g : C_slices_IndexFunc__Row_Q_rowsOf_1_1) (n : Nat) : LPT A := fun ps => match ps with | [.d (.sl 80 p1), .d (.int .i64 p2), .d (.int .i64 p3), .d (.int .i64 p4)] => fun K => slices_IndexFunc__Row_Q_rowsOf_1_1_L2 g n p1 p2 p3 p4 (fun z0 z1 => K .ret (mkSt 19 1 [(1, .fn 136 [.ptr 0 0]), (4, .d (.int .i64 z0))] [(0, some (.box [.d (.int .i64 z1)]))])) (fun z0 => K (.exit 0) (mkSt 19 1 [(1, .fn 136 [.ptr 0 0])] [(0, some (.box [.d (.int .i64 z0)]))])) | _ => fun _ => none
noncomputable def code_185 : Code := (Tryz.f185.body).getD .skip
noncomputable def E_slices_IndexFunc__Row_Q_rowsOf_1_1 (g : C_slices_IndexFunc__Row_Q_rowsOf_1_1) : Env A := mkE [(136, SS_Q_rowsOf_1_1 g.Q_rowsOf_1_1)] [] [(2, ⟨[0, 1, 7, 8], [], [0], []⟩)] [(2, ⟨[1, 4], [], [0], []⟩)] [(2, pieceOf sh_slices_IndexFunc__Row_Q_rowsOf_1_1_L2 (LP_slices_IndexFunc__Row_Q_rowsOf_1_1_L2 g g.N))] [] [] [] [] [1]
theorem ct_slices_IndexFunc__Row_Q_rowsOf_1_1 [Fuel] : NatTab (E_slices_IndexFunc__Row_Q_rowsOf_1_1 I_slices_IndexFunc__Row_Q_rowsOf_1_1).C := ct_of (P := Tryz.prog) (T := T) (.cons ok_Q_rowsOf_1_1 .nil) (by kernel_rfl)
noncomputable def cb_slices_IndexFunc__Row_Q_rowsOf_1_1_L2 : Code := sub [1, 0, 1, 0, 0] code_185
theorem s_slices_IndexFunc__Row_Q_rowsOf_1_1_L2 (g : C_slices_IndexFunc__Row_Q_rowsOf_1_1) (n : Nat) : StepOk (E_slices_IndexFunc__Row_Q_rowsOf_1_1 g) g.N cb_slices_IndexFunc__Row_Q_rowsOf_1_1_L2 sh_slices_IndexFunc__Row_Q_rowsOf_1_1_L2 (LP_slices_IndexFunc__Row_Q_rowsOf_1_1_L2 g) n := by intro ps; unfold LP_slices_IndexFunc__Row_Q_rowsOf_1_1_L2; split; exact .inr fun R K => (by kernel_rfl); exact .inl fun R K => rfl
theorem lf_slices_IndexFunc__Row_Q_rowsOf_1_1_L2 [Fuel] : LoopFine (E_slices_IndexFunc__Row_Q_rowsOf_1_1 I_slices_IndexFunc__Row_Q_rowsOf_1_1) NN cb_slices_IndexFunc__Row_Q_rowsOf_1_1_L2 := fine_loop sh_slices_IndexFunc__Row_Q_rowsOf_1_1_L2 (LP_slices_IndexFunc__Row_Q_rowsOf_1_1_L2 I_slices_IndexFunc__Row_Q_rowsOf_1_1) (by kernel_rfl) ct_slices_IndexFunc__Row_Q_rowsOf_1_1 (cuts0 (fun _ => rfl) (by kernel_rfl)) (fun ps R K => by unfold LP_slices_IndexFunc__Row_Q_rowsOf_1_1_L2; split <;> (try unfold slices_IndexFunc__Row_Q_rowsOf_1_1_L2) <;> rfl) (s_slices_IndexFunc__Row_Q_rowsOf_1_1_L2 I_slices_IndexFunc__Row_Q_rowsOf_1_1)
theorem sm_slices_IndexFunc__Row_Q_rowsOf_1_1 (g : C_slices_IndexFunc__Row_Q_rowsOf_1_1) : Same (SS_slices_IndexFunc__Row_Q_rowsOf_1_1 (@slices_IndexFunc__Row_Q_rowsOf_1_1_ g)) (abody (E_slices_IndexFunc__Row_Q_rowsOf_1_1 g) Tryz.f185 code_185 1 [0] [.asis] g.N) := by intro args; unfold SS_slices_IndexFunc__Row_Q_rowsOf_1_1; split; exact .inr fun R k => (by kernel_rfl); exact .inl fun R k => rfl
theorem ok_slices_IndexFunc__Row_Q_rowsOf_1_1 [Fuel] : Ok 185 (SS_slices_IndexFunc__Row_Q_rowsOf_1_1 (@slices_IndexFunc__Row_Q_rowsOf_1_1 _)) := okF_of std (.cons ok_Q_rowsOf_1_1 .nil) ⟨rfl, rfl, by kernel_rfl, rfl, rfl, rfl⟩ (sm_slices_IndexFunc__Row_Q_rowsOf_1_1 I_slices_IndexFunc__Row_Q_rowsOf_1_1) (cutsL (fun _ => rfl) (.cons lf_slices_IndexFunc__Row_Q_rowsOf_1_1_L2 .nil) (by kernel_rfl)) Tryz.func185 (by kernel_rfl) (by kernel_rfl)
abbrev T_slices_ContainsFunc__Row_Q_rowsOf_1_1 : Type 1 := List G_Row → Int → {R : Type} → (Bool → Int → Option R) → Option R
structure C_slices_ContainsFunc__Row_Q_rowsOf_1_1 where
  N : Nat
  slices_IndexFunc__Row_Q_rowsOf_1_1 : T_slices_IndexFunc__Row_Q_rowsOf_1_1
def slices_ContainsFunc__Row_Q_rowsOf_1_1_ (g : C_slices_ContainsFunc__Row_Q_rowsOf_1_1) (a1 : List G_Row) (a2 : Int) {R : Type} (k0 : Bool → Int → Option R) : Option R :=
  (g.slices_IndexFunc__Row_Q_rowsOf_1_1 a1 a2 (fun r3 r4 => k0 (decide (r3 ≥ 0)) r4))
noncomputable def I_slices_ContainsFunc__Row_Q_rowsOf_1_1 [Fuel] : C_slices_ContainsFunc__Row_Q_rowsOf_1_1 := ⟨NN, @slices_IndexFunc__Row_Q_rowsOf_1_1 _⟩
noncomputable def slices_ContainsFunc__Row_Q_rowsOf_1_1 [Fuel] : T_slices_ContainsFunc__Row_Q_rowsOf_1_1 := @slices_ContainsFunc__Row_Q_rowsOf_1_1_ I_slices_ContainsFunc__Row_Q_rowsOf_1_1
def SS_slices_ContainsFunc__Row_Q_rowsOf_1_1 (g : T_slices_ContainsFunc__Row_Q_rowsOf_1_1) : Spec A := fun args => match args with | [.d (.sl 80 a1), .fn 136 [.box [.d (.int .i64 a2)]]] => fun k => g a1 a2 (fun z0 z1 => k (.d (.bool z0)) [.undef, .fn 136 [.box [.d (.int .i64 z1)]]]) | _ => fun _ => none
noncomputable def code_135 : Code := (Tryz.f135.body).getD .skip
noncomputable def E_slices_ContainsFunc__Row_Q_rowsOf_1_1 (g : C_slices_ContainsFunc__Row_Q_rowsOf_1_1) : Env A := mkE [(185, SS_slices_IndexFunc__Row_Q_rowsOf_1_1 g.slices_IndexFunc__Row_Q_rowsOf_1_1)] [] [] [] [] [] [] [] [(185, 0)] [1]
theorem sm_slices_ContainsFunc__Row_Q_rowsOf_1_1 (g : C_slices_ContainsFunc__Row_Q_rowsOf_1_1) : Same (SS_slices_ContainsFunc__Row_Q_rowsOf_1_1 (@slices_ContainsFunc__Row_Q_rowsOf_1_1_ g)) (abody (E_slices_ContainsFunc__Row_Q_rowsOf_1_1 g) Tryz.f135 code_135 1 [0] [.asis] g.N) := by intro args; unfold SS_slices_ContainsFunc__Row_Q_rowsOf_1_1; split; exact .inr fun R k => (by kernel_rfl); exact .inl fun R k => rfl
theorem ok_slices_ContainsFunc__Row_Q_rowsOf_1_1 [Fuel] : Ok 135 (SS_slices_ContainsFunc__Row_Q_rowsOf_1_1 (@slices_ContainsFunc__Row_Q_rowsOf_1_1 _)) := okF_of std (.cons ok_slices_IndexFunc__Row_Q_rowsOf_1_1 .nil) ⟨rfl, rfl, by kernel_rfl, rfl, rfl, rfl⟩ (sm_slices_ContainsFunc__Row_Q_rowsOf_1_1 I_slices_ContainsFunc__Row_Q_rowsOf_1_1) (cuts0 (fun _ => rfl) (by kernel_rfl)) Tryz.func135 (by kernel_rfl) (by kernel_rfl)
abbrev T_Q_rowsOf_1 : Type 1 := List G_Row → Int → {R : Type} → (Bool → Option R) → Option R
structure C_Q_rowsOf_1 where
  N : Nat
  slices_ContainsFunc__Row_Q_rowsOf_1_1 : T_slices_ContainsFunc__Row_Q_rowsOf_1_1
def Q_rowsOf_1_ (g : C_Q_rowsOf_1) (a1 : List G_Row) (a2 : Int) {R : Type} (k0 : Bool → Option R) : Option R :=
  (g.slices_ContainsFunc__Row_Q_rowsOf_1_1 a1 a2 (fun r3 r4 => k0 r3))
noncomputable def I_Q_rowsOf_1 [Fuel] : C_Q_rowsOf_1 := ⟨NN, @slices_ContainsFunc__Row_Q_rowsOf_1_1 _⟩
noncomputable def Q_rowsOf_1 [Fuel] : T_Q_rowsOf_1 := @Q_rowsOf_1_ I_Q_rowsOf_1
def SS_Q_rowsOf_1 (g : T_Q_rowsOf_1) : Spec A := fun args => match args with | [.d (.sl 80 a1), .d (.int .i64 a2)] => fun k => g a1 a2 (fun z0 => k (.d (.bool z0)) [.undef, .undef]) | _ => fun _ => none
noncomputable def code_134 : Code := (Tryz.f134.body).getD .skip
noncomputable def E_Q_rowsOf_1 (g : C_Q_rowsOf_1) : Env A := mkE [(135, SS_slices_ContainsFunc__Row_Q_rowsOf_1_1 g.slices_ContainsFunc__Row_Q_rowsOf_1_1)] [(3, [0])] [] [] [] [] [] [] [] []
theorem sm_Q_rowsOf_1 (g : C_Q_rowsOf_1) : Same (SS_Q_rowsOf_1 (@Q_rowsOf_1_ g)) (abody (E_Q_rowsOf_1 g) Tryz.f134 code_134 1 [] [.asis] g.N) := by intro args; unfold SS_Q_rowsOf_1; split; exact .inr fun R k => (by kernel_rfl); exact .inl fun R k => rfl
theorem ok_Q_rowsOf_1 [Fuel] : Ok 134 (SS_Q_rowsOf_1 (@Q_rowsOf_1 _)) := okF_of std (.cons ok_slices_ContainsFunc__Row_Q_rowsOf_1_1 .nil) ⟨rfl, rfl, by kernel_rfl, rfl, rfl, rfl⟩ (sm_Q_rowsOf_1 I_Q_rowsOf_1) (cuts0 (fun _ => rfl) (by kernel_rfl)) Tryz.func134 (by kernel_rfl) (by kernel_rfl)
abbrev T_Q_rowsOf : Type 1 := List G_Row → List G_Row → {R : Type} → (List G_Row → Option R) → Option R
structure C_Q_rowsOf where
  N : Nat
  slices_Sort__int : T_slices_Sort__int
  slices_Concat__Row : T_slices_Concat__Row
  slices_Compact__int : T_slices_Compact__int
  Q_rowsOf_1 : T_Q_rowsOf_1
def Q_rowsOf_L3 (g : C_Q_rowsOf) : Nat → List G_Row → List G_Row → Int → Int → List G_Row → List Int → {R : Type} → (List G_Row → List G_Row → List Int → Option R) → Option R
  | 0, _, _, _, _, _, _, _, _ => none
  | n + 1, v4, v5, v6, v7, v8, v9, _, e0 => (bif (decide (v7 < v6)) then (inr v8 v7 (at_ v8 v7 fun x11 => (bif (decide ((v9.length + [x11.f_From, x11.f_To].length) * 8 ≤ roomBytes')) then Q_rowsOf_L3 g n v4 v5 v6 (w64 (v7 + 1)) v8 (v9 ++ [x11.f_From, x11.f_To]) e0 else none))) else e0 v4 v5 v9)
def Q_rowsOf_L12 (g : C_Q_rowsOf) : Nat → List G_Row → List G_Row → Int → List Int → List G_Row → {R : Type} → (List G_Row → Option R) → Option R
  | 0, _, _, _, _, _, _, _ => none
  | n + 1, v17, v18, v19, v20, v21, _, e0 => (bif (decide ((w64 (v19 + 1)) < (v20.length : Int))) then (inr v20 v19 (at_ v20 v19 fun x34 => (g.Q_rowsOf_1 v17 x34 (fun r35 => (bif (!r35) then Q_rowsOf_L12 g n v17 v18 (w64 (v19 + 1)) v20 v21 e0 else (inr v20 v19 (at_ v20 v19 fun x36 => (g.Q_rowsOf_1 v18 x36 (fun r37 => (bif r37 then Q_rowsOf_L12 g n v17 v18 (w64 (v19 + 1)) v20 v21 e0 else (bif (decide ((w64 ((v21.length : Int) - 1)) ≥ 0)) then (inr v21 (w64 ((v21.length : Int) - 1)) (at_ v21 (w64 ((v21.length : Int) - 1)) fun x38 => (inr v20 v19 (at_ v20 v19 fun x39 => (bif (x38.f_To == x39) then (inr v20 (w64 (v19 + 1)) (at_ v20 (w64 (v19 + 1)) fun x40 => (inr v21 (w64 ((v21.length : Int) - 1)) (at_ v21 (w64 ((v21.length : Int) - 1)) fun x41 => Q_rowsOf_L12 g n v17 v18 (w64 (v19 + 1)) v20 (set_ v21 (w64 ((v21.length : Int) - 1)) (⟨x41.f_From, x40⟩ : G_Row)) e0)))) else (inr v20 v19 (at_ v20 v19 fun x42 => (inr v20 (w64 (v19 + 1)) (at_ v20 (w64 (v19 + 1)) fun x43 => (bif (decide ((v21.length + [(⟨x42, x43⟩ : G_Row)].length) * 16 ≤ roomBytes')) then Q_rowsOf_L12 g n v17 v18 (w64 (v19 + 1)) v20 (v21 ++ [(⟨x42, x43⟩ : G_Row)]) e0 else none)))))))))) else (inr v20 v19 (at_ v20 v19 fun x44 => (inr v20 (w64 (v19 + 1)) (at_ v20 (w64 (v19 + 1)) fun x45 => (bif (decide ((v21.length + [(⟨x44, x45⟩ : G_Row)].length) * 16 ≤ roomBytes')) then Q_rowsOf_L12 g n v17 v18 (w64 (v19 + 1)) v20 (v21 ++ [(⟨x44, x45⟩ : G_Row)]) e0 else none)))))))))))))))) else e0 v21)
def Q_rowsOf_ (g : C_Q_rowsOf) (a1 a2 : List G_Row) {R : Type} (k0 : List G_Row → Option R) : Option R :=
  (g.slices_Concat__Row [a1, a2] (fun r3 => (Q_rowsOf_L3 g g.N a1 a2 (r3.length : Int) 0 r3 [] (fun e12 e13 e14 => (g.slices_Sort__int e14 (fun r15 => (g.slices_Compact__int r15 (fun r16 => (Q_rowsOf_L12 g g.N e12 e13 0 r16 [] (fun e46 => k0 e46))))))))))
noncomputable def I_Q_rowsOf [Fuel] : C_Q_rowsOf := ⟨NN, @slices_Sort__int _, @slices_Concat__Row _, @slices_Compact__int _, @Q_rowsOf_1 _⟩
noncomputable def Q_rowsOf [Fuel] : T_Q_rowsOf := @Q_rowsOf_ I_Q_rowsOf
def SS_Q_rowsOf (g : T_Q_rowsOf) : Spec A := fun args => match args with | [.d (.sl 80 a1), .d (.sl 80 a2)] => fun k => g a1 a2 (fun z0 => k (.arr 80 z0) [.undef, .undef]) | _ => fun _ => none
def sh_Q_rowsOf_L3 : SSt := mkSh 97 10 [(0, .sl 80), (1, .sl 80), (5, .own 3 2), (15, .own 80 1), (16, .int .i64), (17, .int .i64)] [(1, .row 80), (2, .row 3)]
def LP_Q_rowsOf_L3 (g : C_Q_rowsOf) (n : Nat) : LPT A := fun ps => match ps with | [.d (.sl 80 p1), .d (.sl 80 p2), .d (.int .i64 p3), .d (.int .i64 p4), .d (.sl 80 p5), .d (.sl 3 p6)] => fun K => Q_rowsOf_L3 g n p1 p2 p3 p4 p5 p6 (fun z0 z1 z2 => K (.exit 0) (mkSt 97 10 [(0, .d (.sl 80 z0)), (1, .d (.sl 80 z1)), (5, .own 3 2)] [(2, some (.row 3 z2))])) | _ => fun _ => none
def sh_Q_rowsOf_L12 : SSt := mkSh 97 10 [(0, .sl 80), (1, .sl 80), (5, .own 3 6), (8, .fn 134 []), (9, .own 80 7), (10, .int .i64)] [(6, .row 3), (7, .row 80)]
def LP_Q_rowsOf_L12 (g : C_Q_rowsOf) (n : Nat) : LPT A := fun ps => match ps with | [.d (.sl 80 p1), .d (.sl 80 p2), .d (.int .i64 p3), .d (.sl 3 p4), .d (.sl 80 p5)] => fun K => Q_rowsOf_L12 g n p1 p2 p3 p4 p5 (fun z0 => K (.exit 2) (mkSt 97 10 [(9, .own 80 7)] [(7, some (.row 80 z0))])) | _ => fun _ => none
noncomputable def code_95 : Code := (Tryz.f95.body).getD .skip
noncomputable def E_Q_rowsOf (g : C_Q_rowsOf) : Env A := mkE [(61, SS_slices_Sort__int g.slices_Sort__int), (132, SS_slices_Concat__Row g.slices_Concat__Row), (133, SS_slices_Compact__int g.slices_Compact__int), (134, SS_Q_rowsOf_1 g.Q_rowsOf_1)] [(7, [3]), (14, [0]), (15, [1]), (26, [4]), (27, [5]), (32, [6]), (94, [8]), (95, [9])] [(3, ⟨[0, 1, 5, 15, 16, 17], [(5, 3, 2)], [1], []⟩), (12, ⟨[0, 1, 5, 8, 9, 10], [(9, 80, 7)], [6], []⟩)] [(3, ⟨[0, 1, 5], [], [2], []⟩), (12, ⟨[9], [], [7], []⟩)] [(3, pieceOf sh_Q_rowsOf_L3 (LP_Q_rowsOf_L3 g g.N)), (12, pieceOf sh_Q_rowsOf_L12 (LP_Q_rowsOf_L12 g g.N))] [] [] [] [(61, 0), (133, 0)] []
theorem ct_Q_rowsOf [Fuel] : NatTab (E_Q_rowsOf I_Q_rowsOf).C := ct_of (P := Tryz.prog) (T := T) (.cons ok_slices_Sort__int (.cons ok_slices_Concat__Row (.cons ok_slices_Compact__int (.cons ok_Q_rowsOf_1 .nil)))) (by kernel_rfl)
noncomputable def cb_Q_rowsOf_L3 : Code := sub [1, 1, 0, 1, 0, 0] code_95
theorem s_Q_rowsOf_L3 (g : C_Q_rowsOf) (n : Nat) : StepOk (E_Q_rowsOf g) g.N cb_Q_rowsOf_L3 sh_Q_rowsOf_L3 (LP_Q_rowsOf_L3 g) n := by intro ps; unfold LP_Q_rowsOf_L3; split; exact .inr fun R K => (by kernel_rfl); exact .inl fun R K => rfl
theorem lf_Q_rowsOf_L3 [Fuel] : LoopFine (E_Q_rowsOf I_Q_rowsOf) NN cb_Q_rowsOf_L3 := fine_loop sh_Q_rowsOf_L3 (LP_Q_rowsOf_L3 I_Q_rowsOf) (by kernel_rfl) ct_Q_rowsOf (cuts0 (fun _ => rfl) (by kernel_rfl)) (fun ps R K => by unfold LP_Q_rowsOf_L3; split <;> (try unfold Q_rowsOf_L3) <;> rfl) (s_Q_rowsOf_L3 I_Q_rowsOf)
noncomputable def cb_Q_rowsOf_L12 : Code := sub [1, 1, 1, 1, 1, 1, 1, 0, 1, 0, 0] code_95
theorem s_Q_rowsOf_L12 (g : C_Q_rowsOf) (n : Nat) : StepOk (E_Q_rowsOf g) g.N cb_Q_rowsOf_L12 sh_Q_rowsOf_L12 (LP_Q_rowsOf_L12 g) n := by intro ps; unfold LP_Q_rowsOf_L12; split; exact .inr fun R K => (by kernel_rfl); exact .inl fun R K => rfl
theorem lf_Q_rowsOf_L12 [Fuel] : LoopFine (E_Q_rowsOf I_Q_rowsOf) NN cb_Q_rowsOf_L12 := fine_loop sh_Q_rowsOf_L12 (LP_Q_rowsOf_L12 I_Q_rowsOf) (by kernel_rfl) ct_Q_rowsOf (cuts0 (fun _ => rfl) (by kernel_rfl)) (fun ps R K => by unfold LP_Q_rowsOf_L12; split <;> (try unfold Q_rowsOf_L12) <;> rfl) (s_Q_rowsOf_L12 I_Q_rowsOf)
theorem sm_Q_rowsOf (g : C_Q_rowsOf) : Same (SS_Q_rowsOf (@Q_rowsOf_ g)) (abody (E_Q_rowsOf g) Tryz.f95 code_95 10 [] [.arr 80] g.N) := by intro args; unfold SS_Q_rowsOf; split; exact .inr fun R k => (by kernel_rfl); exact .inl fun R k => rfl
theorem ok_Q_rowsOf [Fuel] : Ok 95 (SS_Q_rowsOf (@Q_rowsOf _)) := okF_of std (.cons ok_slices_Sort__int (.cons ok_slices_Concat__Row (.cons ok_slices_Compact__int (.cons ok_Q_rowsOf_1 .nil)))) ⟨rfl, rfl, by kernel_rfl, rfl, rfl, rfl⟩ (sm_Q_rowsOf I_Q_rowsOf) (cutsL (fun _ => rfl) (.cons lf_Q_rowsOf_L3 (.cons lf_Q_rowsOf_L12 .nil)) (by kernel_rfl)) Tryz.func95 (by kernel_rfl) (by kernel_rfl)
abbrev T_Q_FreeRows : Type 1 := List G_Segment → List G_Busy → List UInt8 → Int → Int → Int → {R : Type} → (List G_Row → Option R) → Option R
structure C_Q_FreeRows where
  N : Nat
  Q_uses : T_Q_uses
  Q_rowsOf : T_Q_rowsOf
  Q_permitted : T_Q_permitted
def Q_FreeRows_L3 (g : C_Q_FreeRows) : Nat → List G_Segment → List UInt8 → Int → Int → Int → List G_Busy → Int → Int → List G_Row → {R : Type} → (List G_Segment → List UInt8 → Int → Int → Int → List G_Row → Option R) → Option R
  | 0, _, _, _, _, _, _, _, _, _, _, _ => none
  | n + 1, v7, v8, v9, v10, v11, v12, v13, v14, v15, _, e0 => (bif (decide (v14 < v13)) then (get_ v12 v14 fun x18 => (bif (decide (x18.f_Time.f_From ≤ v11)) then (bif (decide (v11 < x18.f_Time.f_To)) then (g.Q_uses x18.f_Hertz x18.f_Width (fun r19 => (bif (decide ((v15.length + [r19].length) * 16 ≤ roomBytes')) then Q_FreeRows_L3 g n v7 v8 v9 v10 v11 v12 v13 (w64 (v14 + 1)) (v15 ++ [r19]) e0 else none))) else Q_FreeRows_L3 g n v7 v8 v9 v10 v11 v12 v13 (w64 (v14 + 1)) v15 e0) else Q_FreeRows_L3 g n v7 v8 v9 v10 v11 v12 v13 (w64 (v14 + 1)) v15 e0)) else e0 v7 v8 v9 v10 v11 v15)
def Q_FreeRows_L10 (g : C_Q_FreeRows) : Nat → Int → Int → Int → List G_Row → List G_Row → {R : Type} → (List G_Row → Option R) → Option R
  | 0, _, _, _, _, _, _, _ => none
  | n + 1, v28, v29, v30, v31, v32, _, e0 => (bif (decide (v30 < v29)) then (inr v31 v30 (at_ v31 v30 fun x34 => (bif (decide ((w64 (x34.f_To - x34.f_From)) ≥ v28)) then (bif (decide ((v32.length + [(⟨(w64 (x34.f_From + (w64 (Int.tdiv v28 2)))), (w64 ((w64 ((w64 (x34.f_To - v28)) + (w64 (Int.tdiv v28 2)))) + 1))⟩ : G_Row)].length) * 16 ≤ roomBytes')) then Q_FreeRows_L10 g n v28 v29 (w64 (v30 + 1)) v31 (v32 ++ [(⟨(w64 (x34.f_From + (w64 (Int.tdiv v28 2)))), (w64 ((w64 ((w64 (x34.f_To - v28)) + (w64 (Int.tdiv v28 2)))) + 1))⟩ : G_Row)]) e0 else none) else Q_FreeRows_L10 g n v28 v29 (w64 (v30 + 1)) v31 v32 e0))) else e0 v32)
def Q_FreeRows_ (g : C_Q_FreeRows) (a1 : List G_Segment) (a2 : List G_Busy) (a3 : List UInt8) (a4 a5 a6 : Int) {R : Type} (k0 : List G_Row → Option R) : Option R :=
  (Q_FreeRows_L3 g g.N a1 a3 a4 a5 a6 a2 (a2.length : Int) 0 [] (fun e20 e21 e22 e23 e24 e25 => (g.Q_permitted e20 e21 e22 e24 (fun r26 => (g.Q_rowsOf r26 e25 (fun r27 => (Q_FreeRows_L10 g g.N e23 (r27.length : Int) 0 r27 [] (fun e35 => k0 e35))))))))
noncomputable def I_Q_FreeRows [Fuel] : C_Q_FreeRows := ⟨NN, @Q_uses _, @Q_rowsOf _, @Q_permitted _⟩
noncomputable def Q_FreeRows [Fuel] : T_Q_FreeRows := @Q_FreeRows_ I_Q_FreeRows
def SS_Q_FreeRows (g : T_Q_FreeRows) : Spec A := fun args => match args with | [.d (.sl 115 a1), .d (.sl 120 a2), .d (.str a3), .d (.int .i64 a4), .d (.int .i64 a5), .d (.int .i64 a6)] => fun k => g a1 a2 a3 a4 a5 a6 (fun z0 => k (.arr 80 z0) [.undef, .undef, .undef, .undef, .undef, .undef]) | _ => fun _ => none
def sh_Q_FreeRows_L3 : SSt := mkSh 84 10 [(0, .sl 115), (2, .str), (3, .int .i64), (4, .int .i64), (5, .int .i64), (13, .own 80 0), (19, .sl 120), (20, .int .i64), (21, .int .i64)] [(0, .row 80)]
def LP_Q_FreeRows_L3 (g : C_Q_FreeRows) (n : Nat) : LPT A := fun ps => match ps with | [.d (.sl 115 p1), .d (.str p2), .d (.int .i64 p3), .d (.int .i64 p4), .d (.int .i64 p5), .d (.sl 120 p6), .d (.int .i64 p7), .d (.int .i64 p8), .d (.sl 80 p9)] => fun K => Q_FreeRows_L3 g n p1 p2 p3 p4 p5 p6 p7 p8 p9 (fun z0 z1 z2 z3 z4 z5 => K (.exit 0) (mkSt 84 10 [(0, .d (.sl 115 z0)), (2, .d (.str z1)), (3, .d (.int .i64 z2)), (4, .d (.int .i64 z3)), (5, .d (.int .i64 z4)), (13, .own 80 0)] [(0, some (.row 80 z5))])) | _ => fun _ => none
def sh_Q_FreeRows_L10 : SSt := mkSh 84 10 [(4, .int .i64), (16, .own 80 6), (52, .own 80 5), (53, .int .i64), (54, .int .i64)] [(5, .row 80), (6, .row 80)]
def LP_Q_FreeRows_L10 (g : C_Q_FreeRows) (n : Nat) : LPT A := fun ps => match ps with | [.d (.int .i64 p1), .d (.int .i64 p2), .d (.int .i64 p3), .d (.sl 80 p4), .d (.sl 80 p5)] => fun K => Q_FreeRows_L10 g n p1 p2 p3 p4 p5 (fun z0 => K (.exit 2) (mkSt 84 10 [(16, .own 80 6)] [(6, some (.row 80 z0))])) | _ => fun _ => none
noncomputable def code_41 : Code := (Tryz.f41.body).getD .skip
noncomputable def E_Q_FreeRows (g : C_Q_FreeRows) : Env A := mkE [(94, SS_Q_uses g.Q_uses), (95, SS_Q_rowsOf g.Q_rowsOf), (96, SS_Q_permitted g.Q_permitted)] [(15, [1]), (18, [7]), (43, [2]), (44, [3]), (50, [4]), (52, [5]), (80, [8]), (81, [9])] [(3, ⟨[0, 2, 3, 4, 5, 13, 19, 20, 21], [(13, 80, 0)], [], []⟩), (10, ⟨[4, 16, 52, 53, 54], [(16, 80, 6)], [5], []⟩)] [(3, ⟨[0, 2, 3, 4, 5, 13], [], [0], []⟩), (10, ⟨[16], [], [6], []⟩)] [(3, pieceOf sh_Q_FreeRows_L3 (LP_Q_FreeRows_L3 g g.N)), (10, pieceOf sh_Q_FreeRows_L10 (LP_Q_FreeRows_L10 g g.N))] [] [] [] [] []
theorem ct_Q_FreeRows [Fuel] : NatTab (E_Q_FreeRows I_Q_FreeRows).C := ct_of (P := Tryz.prog) (T := T) (.cons ok_Q_uses (.cons ok_Q_rowsOf (.cons ok_Q_permitted .nil))) (by kernel_rfl)
noncomputable def cb_Q_FreeRows_L3 : Code := sub [1, 1, 0, 1, 0, 0] code_41
theorem s_Q_FreeRows_L3 (g : C_Q_FreeRows) (n : Nat) : StepOk (E_Q_FreeRows g) g.N cb_Q_FreeRows_L3 sh_Q_FreeRows_L3 (LP_Q_FreeRows_L3 g) n := by intro ps; unfold LP_Q_FreeRows_L3; split; exact .inr fun R K => (by kernel_rfl); exact .inl fun R K => rfl
theorem lf_Q_FreeRows_L3 [Fuel] : LoopFine (E_Q_FreeRows I_Q_FreeRows) NN cb_Q_FreeRows_L3 := fine_loop sh_Q_FreeRows_L3 (LP_Q_FreeRows_L3 I_Q_FreeRows) (by kernel_rfl) ct_Q_FreeRows (cuts0 (fun _ => rfl) (by kernel_rfl)) (fun ps R K => by unfold LP_Q_FreeRows_L3; split <;> (try unfold Q_FreeRows_L3) <;> rfl) (s_Q_FreeRows_L3 I_Q_FreeRows)
noncomputable def cb_Q_FreeRows_L10 : Code := sub [1, 1, 1, 1, 0, 1, 0, 0] code_41
theorem s_Q_FreeRows_L10 (g : C_Q_FreeRows) (n : Nat) : StepOk (E_Q_FreeRows g) g.N cb_Q_FreeRows_L10 sh_Q_FreeRows_L10 (LP_Q_FreeRows_L10 g) n := by intro ps; unfold LP_Q_FreeRows_L10; split; exact .inr fun R K => (by kernel_rfl); exact .inl fun R K => rfl
theorem lf_Q_FreeRows_L10 [Fuel] : LoopFine (E_Q_FreeRows I_Q_FreeRows) NN cb_Q_FreeRows_L10 := fine_loop sh_Q_FreeRows_L10 (LP_Q_FreeRows_L10 I_Q_FreeRows) (by kernel_rfl) ct_Q_FreeRows (cuts0 (fun _ => rfl) (by kernel_rfl)) (fun ps R K => by unfold LP_Q_FreeRows_L10; split <;> (try unfold Q_FreeRows_L10) <;> rfl) (s_Q_FreeRows_L10 I_Q_FreeRows)
theorem sm_Q_FreeRows (g : C_Q_FreeRows) : Same (SS_Q_FreeRows (@Q_FreeRows_ g)) (abody (E_Q_FreeRows g) Tryz.f41 code_41 10 [] [.arr 80] g.N) := by intro args; unfold SS_Q_FreeRows; split; exact .inr fun R k => (by kernel_rfl); exact .inl fun R k => rfl
theorem ok_Q_FreeRows [Fuel] : Ok 41 (SS_Q_FreeRows (@Q_FreeRows _)) := okF_of std (.cons ok_Q_uses (.cons ok_Q_rowsOf (.cons ok_Q_permitted .nil))) ⟨rfl, rfl, by kernel_rfl, rfl, rfl, rfl⟩ (sm_Q_FreeRows I_Q_FreeRows) (cutsL (fun _ => rfl) (.cons lf_Q_FreeRows_L3 (.cons lf_Q_FreeRows_L10 .nil)) (by kernel_rfl)) Tryz.func41 (by kernel_rfl) (by kernel_rfl)
abbrev T_Q_apart : Type 1 := Int → Int → {R : Type} → (Int → Option R) → Option R
def Q_apart_ (g : Nat) (a1 a2 : Int) {R : Type} (k0 : Int → Option R) : Option R :=
  k0 (if (w64 (a2 - a1)) > (w64 (a1 - a2)) then (w64 (a2 - a1)) else (w64 (a1 - a2)))
noncomputable def Q_apart [Fuel] : T_Q_apart := @Q_apart_ NN
def SS_Q_apart (g : T_Q_apart) : Spec A := fun args => match args with | [.d (.int .i64 a1), .d (.int .i64 a2)] => fun k => g a1 a2 (fun z0 => k (.d (.int .i64 z0)) [.undef, .undef]) | _ => fun _ => none
noncomputable def code_97 : Code := (Tryz.f97.body).getD .skip
noncomputable def E_Q_apart (g : Nat) : Env A := mkE [] [] [] [] [] [] [] [] [] []
theorem sm_Q_apart (g : Nat) : Same (SS_Q_apart (@Q_apart_ g)) (abody (E_Q_apart g) Tryz.f97 code_97 0 [] [.asis] g) := by intro args; unfold SS_Q_apart; split; exact .inr fun R k => (by kernel_rfl); exact .inl fun R k => rfl
theorem ok_Q_apart [Fuel] : Ok 97 (SS_Q_apart (@Q_apart _)) := okF_of std .nil ⟨rfl, rfl, by kernel_rfl, rfl, rfl, rfl⟩ (sm_Q_apart NN) (cuts0 (fun _ => rfl) (by kernel_rfl)) Tryz.func97 (by kernel_rfl) (by kernel_rfl)
abbrev T_Q_NearestTo : Type 1 := List G_Row → Int → {R : Type} → (Int → Bool → Option R) → Option R
structure C_Q_NearestTo where
  N : Nat
  Q_apart : T_Q_apart
def Q_NearestTo_L3 (g : C_Q_NearestTo) : Nat → Int → Int → Bool → List G_Row → Int → Int → {R : Type} → (Int → Bool → Option R) → Option R
  | 0, _, _, _, _, _, _, _, _ => none
  | n + 1, v3, v4, v5, v6, v7, v8, _, e0 => (bif (decide (v8 < v7)) then (get_ v6 v8 fun x12 => (bif (!v5) then Q_NearestTo_L3 g n v3 (if (w64 (x12.f_To - 1)) < (if x12.f_From > v3 then x12.f_From else v3) then (w64 (x12.f_To - 1)) else (if x12.f_From > v3 then x12.f_From else v3)) true v6 v7 (w64 (v8 + 1)) e0 else (g.Q_apart (if (w64 (x12.f_To - 1)) < (if x12.f_From > v3 then x12.f_From else v3) then (w64 (x12.f_To - 1)) else (if x12.f_From > v3 then x12.f_From else v3)) v3 (fun r13 => (g.Q_apart v4 v3 (fun r14 => (bif (decide (r13 < r14)) then Q_NearestTo_L3 g n v3 (if (w64 (x12.f_To - 1)) < (if x12.f_From > v3 then x12.f_From else v3) then (w64 (x12.f_To - 1)) else (if x12.f_From > v3 then x12.f_From else v3)) true v6 v7 (w64 (v8 + 1)) e0 else Q_NearestTo_L3 g n v3 v4 v5 v6 v7 (w64 (v8 + 1)) e0))))))) else e0 v4 v5)
def Q_NearestTo_ (g : C_Q_NearestTo) (a1 : List G_Row) (a2 : Int) {R : Type} (k0 : Int → Bool → Option R) : Option R :=
  (Q_NearestTo_L3 g g.N a2 0 false a1 (a1.length : Int) 0 (fun e15 e16 => k0 e15 e16))
noncomputable def I_Q_NearestTo [Fuel] : C_Q_NearestTo := ⟨NN, @Q_apart _⟩
noncomputable def Q_NearestTo [Fuel] : T_Q_NearestTo := @Q_NearestTo_ I_Q_NearestTo
def p_Q_NearestTo (args : List (IV A)) : Bool := match args with | [.d (.sl 80 _), .d (.int .i64 _)] => true | _ => false
def SS_Q_NearestTo (g : T_Q_NearestTo) : Spec A := fun args => match args with | [.d (.sl 80 a1), .d (.int .i64 a2)] => fun k => g a1 a2 (fun z0 z1 => k (.tup [.d (.int .i64 z0), .d (.bool z1)]) [.undef, .undef]) | _ => fun _ => none
def sh_Q_NearestTo_L3 : SSt := mkSh 40 1 [(1, .int .i64), (6, .int .i64), (7, .bool), (11, .sl 80), (12, .int .i64), (13, .int .i64)] []
def LP_Q_NearestTo_L3 (g : C_Q_NearestTo) (n : Nat) : LPT A := fun ps => match ps with | [.d (.int .i64 p1), .d (.int .i64 p2), .d (.bool p3), .d (.sl 80 p4), .d (.int .i64 p5), .d (.int .i64 p6)] => fun K => Q_NearestTo_L3 g n p1 p2 p3 p4 p5 p6 (fun z0 z1 => K (.exit 0) (mkSt 40 1 [(6, .d (.int .i64 z0)), (7, .d (.bool z1))] [])) | _ => fun _ => none
noncomputable def code_42 : Code := (Tryz.f42.body).getD .skip
noncomputable def E_Q_NearestTo (g : C_Q_NearestTo) : Env A := mkE [(97, SS_Q_apart g.Q_apart)] [(9, [0])] [(3, ⟨[1, 6, 7, 11, 12, 13], [], [], []⟩)] [(3, ⟨[6, 7], [], [], []⟩)] [(3, pieceOf sh_Q_NearestTo_L3 (LP_Q_NearestTo_L3 g g.N))] [] [] [] [] []
theorem ct_Q_NearestTo [Fuel] : NatTab (E_Q_NearestTo I_Q_NearestTo).C := ct_of (P := Tryz.prog) (T := T) (.cons ok_Q_apart .nil) (by kernel_rfl)
noncomputable def cb_Q_NearestTo_L3 : Code := sub [1, 1, 0, 1, 0, 0] code_42
theorem s_Q_NearestTo_L3 (g : C_Q_NearestTo) (n : Nat) : StepOk (E_Q_NearestTo g) g.N cb_Q_NearestTo_L3 sh_Q_NearestTo_L3 (LP_Q_NearestTo_L3 g) n := by intro ps; unfold LP_Q_NearestTo_L3; split; exact .inr fun R K => (by kernel_rfl); exact .inl fun R K => rfl
theorem lf_Q_NearestTo_L3 [Fuel] : LoopFine (E_Q_NearestTo I_Q_NearestTo) NN cb_Q_NearestTo_L3 := fine_loop sh_Q_NearestTo_L3 (LP_Q_NearestTo_L3 I_Q_NearestTo) (by kernel_rfl) ct_Q_NearestTo (cuts0 (fun _ => rfl) (by kernel_rfl)) (fun ps R K => by unfold LP_Q_NearestTo_L3; split <;> (try unfold Q_NearestTo_L3) <;> rfl) (s_Q_NearestTo_L3 I_Q_NearestTo)
theorem sm_Q_NearestTo (g : C_Q_NearestTo) : Same (SS_Q_NearestTo (@Q_NearestTo_ g)) (abody (E_Q_NearestTo g) Tryz.f42 code_42 1 [] [.asis, .asis] g.N) := by intro args; unfold SS_Q_NearestTo; split; exact .inr fun R k => (by kernel_rfl); exact .inl fun R k => rfl
theorem ok_Q_NearestTo [Fuel] : Ok 42 (SS_Q_NearestTo (@Q_NearestTo _)) := okF_of std (.cons ok_Q_apart .nil) ⟨rfl, rfl, by kernel_rfl, rfl, rfl, rfl⟩ (sm_Q_NearestTo I_Q_NearestTo) (cutsL (fun _ => rfl) (.cons lf_Q_NearestTo_L3 .nil) (by kernel_rfl)) Tryz.func42 (by kernel_rfl) (by kernel_rfl)
end Go.Am
