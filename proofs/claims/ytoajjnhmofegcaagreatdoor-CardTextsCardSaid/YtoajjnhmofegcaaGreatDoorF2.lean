/- The functions of the program as Lean functions, each shown to be what the code computes, part 2. No condition: lemmas for the claim. -/
import Derived.Test.YtoajjnhmofegcaaGreatDoorF0
import Derived.Test.YtoajjnhmofegcaaGreatDoorFSh
import Derived.Test.YtoajjnhmofegcaaGreatDoorF1
set_option linter.unusedVariables false
set_option maxRecDepth 100000
namespace Go.Am
open Go Go.Proofs
abbrev T_slices_Compact__Card : Type 1 := List G_Card → {R : Type} → (List G_Card → Option R) → Option R
def slices_Compact__Card_L9 (g : Nat) : Nat → Int → Int → Int → Int → List G_Card → {R : Type} → (Int → List G_Card → Option R) → Option R
 | 0, _, _, _, _, _, _, _ => none
 | n + 1, v23, v24, v25, v26, v27, _, e0 => (bif (decide (v26 < ((v25 - v24).toNat : Int))) then (bif (decide (0 ≤ v26) && (decide (v26 < v25 - v24) && decide (v24 + v26 < (v27.length : Int)))) then (at_ v27 (v24 + v26) fun x32 => (bif (decide (0 ≤ (w64 (v26 - 1))) && (decide ((w64 (v26 - 1)) < v25 - v24) && decide (v24 + (w64 (v26 - 1)) < (v27.length : Int)))) then (at_ v27 (v24 + (w64 (v26 - 1))) fun x33 => (bif (!(eq_G_Card x32 x33)) then (bif (decide (0 ≤ v26) && (decide (v26 < v25 - v24) && decide (v24 + v26 < (v27.length : Int)))) then (at_ v27 (v24 + v26) fun x34 => (inr v27 v23 (at_ v27 v23 fun x35 => slices_Compact__Card_L9 g n (w64 (v23 + 1)) v24 v25 (w64 (v26 + 1)) (set_ v27 v23 x34) e0))) else none) else slices_Compact__Card_L9 g n v23 v24 v25 (w64 (v26 + 1)) v27 e0)) else none)) else none) else e0 v23 v27)
def slices_Compact__Card_L4 (g : Nat) : Nat → Int → List G_Card → {R : Type} → (List G_Card → Option R) → (List G_Card → Option R) → Option R
 | 0, _, _, _, _, _ => none
 | n + 1, v2, v3, _, e0, e1 => (bif (decide (v2 < (v3.length : Int))) then (inr v3 v2 (at_ v3 v2 fun x21 => (inr v3 (w64 (v2 - 1)) (at_ v3 (w64 (v2 - 1)) fun x22 => (bif (eq_G_Card x21 x22) then (bif (decide (0 < v3.length) && (decide (0 ≤ v2) && decide (v2 ≤ (v3.length : Int)))) then (slices_Compact__Card_L9 g g v2 v2 (v3.length : Int) 1 v3 (fun e36 e37 => (bif (decide (0 < e37.length) && (decide (0 ≤ e36) && decide (e36 ≤ (e37.length : Int)))) then (bif (decide (0 ≤ e36) && (decide (e36 ≤ (e37.length : Int)) && decide (((e37.length : Int)).toNat ≤ e37.length))) then (bif (decide (0 ≤ e36) && decide (e36 ≤ ((e37.take (e36).toNat ++ (List.replicate ((e37.length : Int) - e36).toNat (⟨0, 0, 0, [], []⟩ : G_Card) ++ e37.drop ((e37.length : Int)).toNat)).length : Int))) then e0 ((e37.take (e36).toNat ++ (List.replicate ((e37.length : Int) - e36).toNat (⟨0, 0, 0, [], []⟩ : G_Card) ++ e37.drop ((e37.length : Int)).toNat)).take (e36 : Int).toNat) else none) else none) else none))) else none) else slices_Compact__Card_L4 g n (w64 (v2 + 1)) v3 e0 e1))))) else e1 v3)
def slices_Compact__Card_ (g : Nat) (a1 : List G_Card) {R : Type} (k0 : List G_Card → Option R) : Option R :=
 (bif (decide ((a1.length : Int) < 2)) then k0 a1 else (slices_Compact__Card_L4 g g 1 a1 (fun e38 => k0 e38) (fun e39 => k0 e39)))
noncomputable def slices_Compact__Card [Fuel] : T_slices_Compact__Card := @slices_Compact__Card_ NN
def SS_slices_Compact__Card (g : T_slices_Compact__Card) : Spec A := fun args => match args with | [.arr 51 a1] => fun k => g a1 (fun z0 => k (.arr 51 z0) [.undef]) | _ => fun _ => none
def sh_slices_Compact__Card_L9 : SSt := mkSh 61 6 [(0, .own 51 0), (3, .int .i64), (4, .vw 51 0), (5, .int .i64)] [(0, .row 51)]
def LP_slices_Compact__Card_L9 (g : Nat) (n : Nat) : LPT A := fun ps => match ps with | [.d (.int .i64 p1), .z p2, .z p3, .d (.int .i64 p4), .d (.sl 51 p5)] => fun K => slices_Compact__Card_L9 g n p1 p2 p3 p4 p5 (fun z0 z1 => K (.exit 2) (mkSt 61 6 [(0, .own 51 0), (3, .d (.int .i64 z0))] [(0, some (.row 51 z1))])) | _ => fun _ => none
def sh_slices_Compact__Card_L4 : SSt := mkSh 61 6 [(0, .own 51 0), (3, .int .i64)] [(0, .row 51)]
def LP_slices_Compact__Card_L4 (g : Nat) (n : Nat) : LPT A := fun ps => match ps with | [.d (.int .i64 p1), .d (.sl 51 p2)] => fun K => slices_Compact__Card_L4 g n p1 p2 (fun z0 => K .ret (mkSt 61 6 [(0, .own 51 0), (2, .own 51 5)] [(5, some (.row 51 z0))])) (fun z0 => K (.exit 0) (mkSt 61 6 [(0, .own 51 0)] [(0, some (.row 51 z0))])) | _ => fun _ => none
noncomputable def code_75 : Code := (Tryz.f75.body).getD .skip
noncomputable def E_slices_Compact__Card (g : Nat) : Env A := mkE [] [(28, [1, 2]), (56, [3, 4]), (59, [5])] [(9, ⟨[0, 3, 4, 5], [], [0], [], [], [], []⟩), (4, ⟨[0, 3], [], [0], [], [], [], []⟩)] [(9, ⟨[0, 3], [], [0], [], [], [], []⟩), (4, ⟨[0, 2], [], [0, 5], [], [], [], []⟩)] [(9, pieceOf sh_slices_Compact__Card_L9 (LP_slices_Compact__Card_L9 g g)), (4, pieceOf sh_slices_Compact__Card_L4 (LP_slices_Compact__Card_L4 g g))] [] [] [] [] []
theorem ct_slices_Compact__Card [Fuel] : NatTab (E_slices_Compact__Card NN).C := ct_of (P := Tryz.prog) (T := T) .nil (by kernel_rfl)
noncomputable def cb_slices_Compact__Card_L9 : Code := sub [1, 1, 0, 1, 0, 0, 1, 0, 0, 1, 0, 1, 0, 1, 0, 0] code_75
theorem s_slices_Compact__Card_L9 (g : Nat) (n : Nat) : StepOk (E_slices_Compact__Card g) g cb_slices_Compact__Card_L9 sh_slices_Compact__Card_L9 (LP_slices_Compact__Card_L9 g) n := by intro ps; unfold LP_slices_Compact__Card_L9; split; exact .inr fun R K => (by kernel_rfl); exact .inl fun R K => rfl
theorem lf_slices_Compact__Card_L9 [Fuel] : LoopFine (E_slices_Compact__Card NN) NN cb_slices_Compact__Card_L9 := fine_loop sh_slices_Compact__Card_L9 (LP_slices_Compact__Card_L9 NN) (by kernel_rfl) ct_slices_Compact__Card (cuts0 (fun _ => rfl) (by kernel_rfl)) (fun ps R K => by unfold LP_slices_Compact__Card_L9; split <;> (try unfold slices_Compact__Card_L9) <;> rfl) (s_slices_Compact__Card_L9 NN)
noncomputable def cb_slices_Compact__Card_L4 : Code := sub [1, 1, 0, 1, 0, 0] code_75
theorem s_slices_Compact__Card_L4 (g : Nat) (n : Nat) : StepOk (E_slices_Compact__Card g) g cb_slices_Compact__Card_L4 sh_slices_Compact__Card_L4 (LP_slices_Compact__Card_L4 g) n := by intro ps; unfold LP_slices_Compact__Card_L4; split; exact .inr fun R K => (by kernel_rfl); exact .inl fun R K => rfl
theorem lf_slices_Compact__Card_L4 [Fuel] : LoopFine (E_slices_Compact__Card NN) NN cb_slices_Compact__Card_L4 := fine_loop sh_slices_Compact__Card_L4 (LP_slices_Compact__Card_L4 NN) (by kernel_rfl) ct_slices_Compact__Card (cutsL (fun _ => rfl) (.cons lf_slices_Compact__Card_L9 .nil) (by kernel_rfl)) (fun ps R K => by unfold LP_slices_Compact__Card_L4; split <;> (try unfold slices_Compact__Card_L4) <;> rfl) (s_slices_Compact__Card_L4 NN)
theorem sm_slices_Compact__Card (g : Nat) : Same (SS_slices_Compact__Card (@slices_Compact__Card_ g)) (abody (E_slices_Compact__Card g) Tryz.f75 code_75 6 [0] [.arr 51] g) := by intro args; unfold SS_slices_Compact__Card; split; exact .inr fun R k => (by kernel_rfl); exact .inl fun R k => rfl
theorem ok_slices_Compact__Card [Fuel] : Ok 75 (SS_slices_Compact__Card (@slices_Compact__Card _)) := okF_of std .nil ⟨rfl, rfl, by kernel_rfl, rfl, rfl, rfl⟩ (sm_slices_Compact__Card NN) (cutsL (fun _ => rfl) (.cons lf_slices_Compact__Card_L9 (.cons lf_slices_Compact__Card_L4 .nil)) (by kernel_rfl)) Tryz.func75 (by kernel_rfl) (by kernel_rfl)
abbrev T_Stream_Cards : Type 1 := G_Stream → Int → {R : Type} → (List G_Card → G_Stream → Option R) → Option R
structure C_Stream_Cards where
 N : Nat
 Stream_Pick : T_Stream_Pick
 Stream_ACall : T_Stream_ACall
 Stream_Some : T_Stream_Some
 Stream_Flip : T_Stream_Flip
 Stream_Odd : T_Stream_Odd
 slices_SortStableFunc__Card_Q_CardOrder : T_slices_SortStableFunc__Card_Q_CardOrder
 slices_Compact__Card : T_slices_Compact__Card
def Stream_Cards_L4 (g : C_Stream_Cards) : Nat → Int → Int → Int → G_Stream → List G_Card → {R : Type} → (G_Stream → List G_Card → Option R) → Option R
 | 0, _, _, _, _, _, _, _ => none
 | n + 1, v3, v4, v5, v6, v7, _, e0 => (bif (decide (v5 < v4)) then (g.Stream_Pick v6 [0, 1, 5, 20] (fun r28 r29 => (g.Stream_Pick r29 [1, 2, 2, 2, 3] (fun r30 r31 => (g.Stream_Pick r31 [1, 1, 2] (fun r32 r33 => (g.Stream_ACall r33 (fun r34 r35 => (g.Stream_Some r35 [[98, 50, 48], [98, 50, 48], [98, 52, 48]] (fun r36 r37 => (g.Stream_Flip r37 100 (fun r38 r39 => (bif r38 then (g.Stream_Odd r39 0 50 (fun r40 r41 => (g.Stream_Odd r41 1 3 (fun r42 r43 => (g.Stream_Odd r43 1 3 (fun r44 r45 => (g.Stream_Some r45 [[], [98, 50, 48]] (fun r46 r47 => (bif (decide ((v7.length + [(⟨r40, r42, r44, r34, r46⟩ : G_Card)].length) * 56 ≤ roomBytes')) then Stream_Cards_L4 g n (w64 (v3 + r28)) v4 (w64 (v5 + 1)) r47 (v7 ++ [(⟨r40, r42, r44, r34, r46⟩ : G_Card)]) e0 else none))))))))) else (bif (decide ((v7.length + [(⟨(w64 (v3 + r28)), r30, r32, r34, r36⟩ : G_Card)].length) * 56 ≤ roomBytes')) then Stream_Cards_L4 g n (w64 (v3 + r28)) v4 (w64 (v5 + 1)) r39 (v7 ++ [(⟨(w64 (v3 + r28)), r30, r32, r34, r36⟩ : G_Card)]) e0 else none)))))))))))))) else e0 v6 v7)
def Stream_Cards_ (g : C_Stream_Cards) (a1 : G_Stream) (a2 : Int) {R : Type} (k0 : List G_Card → G_Stream → Option R) : Option R :=
 (Stream_Cards_L4 g g.N 0 a2 0 a1 [] (fun e48 e49 => (g.slices_SortStableFunc__Card_Q_CardOrder e49 (fun r50 => (g.slices_Compact__Card r50 (fun r51 => k0 r51 e48))))))
noncomputable def I_Stream_Cards [Fuel] : C_Stream_Cards := ⟨NN, @Stream_Pick _, @Stream_ACall _, @Stream_Some _, @Stream_Flip _, @Stream_Odd _, @slices_SortStableFunc__Card_Q_CardOrder _, @slices_Compact__Card _⟩
noncomputable def Stream_Cards [Fuel] : T_Stream_Cards := @Stream_Cards_ I_Stream_Cards
def SS_Stream_Cards (g : T_Stream_Cards) : Spec A := fun args => match args with | [.box [.d (.sl 3 a1), .d (.int .i64 a2)], .d (.int .i64 a3)] => fun k => g ⟨a1, a2⟩ a3 (fun z0 z1 => k (.arr 51 z0) [.box [.d (.sl 3 z1.f_L), .d (.int .i64 z1.f_at)], .undef]) | _ => fun _ => none
def sh_Stream_Cards_L4 : SSt := mkSh 53 11 [(0, .ptr 0 0), (5, .own 51 1), (6, .int .i64), (8, .int .i64), (9, .int .i64)] [(0, .box [.sl 3, .int .i64]), (1, .row 51)]
def LP_Stream_Cards_L4 (g : C_Stream_Cards) (n : Nat) : LPT A := fun ps => match ps with | [.d (.int .i64 p1), .d (.int .i64 p2), .d (.int .i64 p3), .d (.sl 3 p4), .d (.int .i64 p5), .d (.sl 51 p6)] => fun K => Stream_Cards_L4 g n p1 p2 p3 ⟨p4, p5⟩ p6 (fun z0 z1 => K (.exit 0) (mkSt 53 11 [(0, .ptr 0 0), (5, .own 51 1)] [(0, some (.box [.d (.sl 3 z0.f_L), .d (.int .i64 z0.f_at)])), (1, some (.row 51 z1))])) | _ => fun _ => none
noncomputable def code_17 : Code := (Tryz.f17.body).getD .skip
noncomputable def E_Stream_Cards (g : C_Stream_Cards) : Env A := mkE [(44, SS_Stream_Pick g.Stream_Pick), (69, SS_Stream_ACall g.Stream_ACall), (70, SS_Stream_Some g.Stream_Some), (71, SS_Stream_Flip g.Stream_Flip), (72, SS_Stream_Odd g.Stream_Odd), (73, SS_slices_SortStableFunc__Card_Q_CardOrder g.slices_SortStableFunc__Card_Q_CardOrder), (75, SS_slices_Compact__Card g.slices_Compact__Card)] [(7, [6]), (13, [2]), (18, [3]), (21, [4]), (26, [5]), (38, [7]), (46, [8]), (47, [9]), (52, [10])] [(4, ⟨[0, 5, 6, 8, 9], [(5, 51, 1)], [0], [], [], [], []⟩)] [(4, ⟨[0, 5], [], [0, 1], [], [], [], []⟩)] [(4, pieceOf sh_Stream_Cards_L4 (LP_Stream_Cards_L4 g g.N))] [] [] [] [(73, 0), (75, 0)] [0]
theorem ct_Stream_Cards [Fuel] : NatTab (E_Stream_Cards I_Stream_Cards).C := ct_of (P := Tryz.prog) (T := T) (.cons ok_Stream_Pick (.cons ok_Stream_ACall (.cons ok_Stream_Some (.cons ok_Stream_Flip (.cons ok_Stream_Odd (.cons ok_slices_SortStableFunc__Card_Q_CardOrder (.cons ok_slices_Compact__Card .nil))))))) (by kernel_rfl)
noncomputable def cb_Stream_Cards_L4 : Code := sub [1, 1, 1, 0, 1, 0, 0] code_17
theorem s_Stream_Cards_L4 (g : C_Stream_Cards) (n : Nat) : StepOk (E_Stream_Cards g) g.N cb_Stream_Cards_L4 sh_Stream_Cards_L4 (LP_Stream_Cards_L4 g) n := by intro ps; unfold LP_Stream_Cards_L4; split; exact .inr fun R K => (by kernel_rfl); exact .inl fun R K => rfl
theorem lf_Stream_Cards_L4 [Fuel] : LoopFine (E_Stream_Cards I_Stream_Cards) NN cb_Stream_Cards_L4 := fine_loop sh_Stream_Cards_L4 (LP_Stream_Cards_L4 I_Stream_Cards) (by kernel_rfl) ct_Stream_Cards (cuts0 (fun _ => rfl) (by kernel_rfl)) (fun ps R K => by unfold LP_Stream_Cards_L4; split <;> (try unfold Stream_Cards_L4) <;> rfl) (s_Stream_Cards_L4 I_Stream_Cards)
theorem sm_Stream_Cards (g : C_Stream_Cards) : Same (SS_Stream_Cards (@Stream_Cards_ g)) (abody (E_Stream_Cards g) Tryz.f17 code_17 11 [0] [.arr 51] g.N) := by intro args; unfold SS_Stream_Cards; split; exact .inr fun R k => (by kernel_rfl); exact .inl fun R k => rfl
theorem ok_Stream_Cards [Fuel] : Ok 17 (SS_Stream_Cards (@Stream_Cards _)) := okF_of std (.cons ok_Stream_Pick (.cons ok_Stream_ACall (.cons ok_Stream_Some (.cons ok_Stream_Flip (.cons ok_Stream_Odd (.cons ok_slices_SortStableFunc__Card_Q_CardOrder (.cons ok_slices_Compact__Card .nil))))))) ⟨rfl, rfl, by kernel_rfl, rfl, rfl, rfl⟩ (sm_Stream_Cards I_Stream_Cards) (cutsL (fun _ => rfl) (.cons lf_Stream_Cards_L4 .nil) (by kernel_rfl)) Tryz.func17 (by kernel_rfl) (by kernel_rfl)
abbrev T_Q_in : Type 1 := Int → Int → Int → {R : Type} → (Bool → Option R) → Option R
def Q_in_ (g : Nat) (a1 a2 a3 : Int) {R : Type} (k0 : Bool → Option R) : Option R :=
 (bif (decide (a2 ≤ a1)) then k0 (decide (a1 ≤ a3)) else k0 false)
noncomputable def Q_in [Fuel] : T_Q_in := @Q_in_ NN
def SS_Q_in (g : T_Q_in) : Spec A := fun args => match args with | [.d (.int .i64 a1), .d (.int .i64 a2), .d (.int .i64 a3)] => fun k => g a1 a2 a3 (fun z0 => k (.d (.bool z0)) [.undef, .undef, .undef]) | _ => fun _ => none
noncomputable def code_83 : Code := (Tryz.f83.body).getD .skip
noncomputable def E_Q_in (g : Nat) : Env A := mkE [] [] [] [] [] [] [] [] [] []
theorem sm_Q_in (g : Nat) : Same (SS_Q_in (@Q_in_ g)) (abody (E_Q_in g) Tryz.f83 code_83 0 [] [.asis] g) := by intro args; unfold SS_Q_in; split; exact .inr fun R k => (by kernel_rfl); exact .inl fun R k => rfl
theorem ok_Q_in [Fuel] : Ok 83 (SS_Q_in (@Q_in _)) := okF_of std .nil ⟨rfl, rfl, by kernel_rfl, rfl, rfl, rfl⟩ (sm_Q_in NN) (cuts0 (fun _ => rfl) (by kernel_rfl)) Tryz.func83 (by kernel_rfl) (by kernel_rfl)
abbrev T_Q_Moment : Type 1 := Int → {R : Type} → (Bool → Option R) → Option R
structure C_Q_Moment where
 N : Nat
 Q_in : T_Q_in
def Q_Moment_ (g : C_Q_Moment) (a1 : Int) {R : Type} (k0 : Bool → Option R) : Option R :=
 (g.Q_in a1 0 345686399999 (fun r2 => k0 r2))
noncomputable def I_Q_Moment [Fuel] : C_Q_Moment := ⟨NN, @Q_in _⟩
noncomputable def Q_Moment [Fuel] : T_Q_Moment := @Q_Moment_ I_Q_Moment
def SS_Q_Moment (g : T_Q_Moment) : Spec A := fun args => match args with | [.d (.int .i64 a1)] => fun k => g a1 (fun z0 => k (.d (.bool z0)) [.undef]) | _ => fun _ => none
noncomputable def code_82 : Code := (Tryz.f82.body).getD .skip
noncomputable def E_Q_Moment (g : C_Q_Moment) : Env A := mkE [(83, SS_Q_in g.Q_in)] [] [] [] [] [] [] [] [] []
theorem sm_Q_Moment (g : C_Q_Moment) : Same (SS_Q_Moment (@Q_Moment_ g)) (abody (E_Q_Moment g) Tryz.f82 code_82 0 [] [.asis] g.N) := by intro args; unfold SS_Q_Moment; split; exact .inr fun R k => (by kernel_rfl); exact .inl fun R k => rfl
theorem ok_Q_Moment [Fuel] : Ok 82 (SS_Q_Moment (@Q_Moment _)) := okF_of std (.cons ok_Q_in .nil) ⟨rfl, rfl, by kernel_rfl, rfl, rfl, rfl⟩ (sm_Q_Moment I_Q_Moment) (cuts0 (fun _ => rfl) (by kernel_rfl)) Tryz.func82 (by kernel_rfl) (by kernel_rfl)
abbrev T_stringslite_Index : Type 1 := List UInt8 → List UInt8 → {R : Type} → (Int → Option R) → Option R
def stringslite_Index [Fuel] : T_stringslite_Index := @X_ix1
def SS_stringslite_Index (g : T_stringslite_Index) : Spec A := SSX_ix1 g
theorem ok_stringslite_Index [Fuel] : Ok 218 (SS_stringslite_Index (@stringslite_Index _)) := ⟨ssx_ix1_sound (ix1_sound (Any.stringslite_Index_one Tryz.lays219)), ssx_ix1_nat, enters_of (fn := Tryz.f218) Tryz.func218 (by kernel_rfl) (by kernel_rfl)⟩
abbrev T_stringslite_Cut : Type 1 := List UInt8 → List UInt8 → {R : Type} → (List UInt8 → List UInt8 → Bool → Option R) → Option R
structure C_stringslite_Cut where
 N : Nat
 stringslite_Index : T_stringslite_Index
def stringslite_Cut_ (g : C_stringslite_Cut) (a1 a2 : List UInt8) {R : Type} (k0 : List UInt8 → List UInt8 → Bool → Option R) : Option R :=
 (g.stringslite_Index a1 a2 (fun r3 => (bif (decide (r3 ≥ 0)) then (bif (decide (0 ≤ r3) && decide (r3 ≤ (a1.length : Int))) then (bif (decide (0 ≤ (w64 (r3 + (a2.length : Int)))) && decide ((w64 (r3 + (a2.length : Int))) ≤ (a1.length : Int))) then k0 (a1.take (r3 : Int).toNat) (a1.drop ((w64 (r3 + (a2.length : Int))) : Int).toNat) true else none) else none) else k0 a1 [] false)))
noncomputable def I_stringslite_Cut [Fuel] : C_stringslite_Cut := ⟨NN, @stringslite_Index _⟩
noncomputable def stringslite_Cut [Fuel] : T_stringslite_Cut := @stringslite_Cut_ I_stringslite_Cut
def SS_stringslite_Cut (g : T_stringslite_Cut) : Spec A := fun args => match args with | [.d (.str a1), .d (.str a2)] => fun k => g a1 a2 (fun z0 z1 z2 => k (.tup [.d (.str z0), .d (.str z1), .d (.bool z2)]) [.undef, .undef]) | _ => fun _ => none
noncomputable def code_173 : Code := (Tryz.f173.body).getD .skip
noncomputable def E_stringslite_Cut (g : C_stringslite_Cut) : Env A := mkE [(218, SS_stringslite_Index g.stringslite_Index)] [] [] [] [] [] [] [] [] []
theorem sm_stringslite_Cut (g : C_stringslite_Cut) : Same (SS_stringslite_Cut (@stringslite_Cut_ g)) (abody (E_stringslite_Cut g) Tryz.f173 code_173 0 [] [.asis, .asis, .asis] g.N) := by intro args; unfold SS_stringslite_Cut; split; exact .inr fun R k => (by kernel_rfl); exact .inl fun R k => rfl
theorem ok_stringslite_Cut [Fuel] : Ok 173 (SS_stringslite_Cut (@stringslite_Cut _)) := okF_of std (.cons ok_stringslite_Index .nil) ⟨rfl, rfl, by kernel_rfl, rfl, rfl, rfl⟩ (sm_stringslite_Cut I_stringslite_Cut) (cuts0 (fun _ => rfl) (by kernel_rfl)) Tryz.func173 (by kernel_rfl) (by kernel_rfl)
abbrev T_strings_Cut : Type 1 := List UInt8 → List UInt8 → {R : Type} → (List UInt8 → List UInt8 → Bool → Option R) → Option R
structure C_strings_Cut where
 N : Nat
 stringslite_Cut : T_stringslite_Cut
def strings_Cut_ (g : C_strings_Cut) (a1 a2 : List UInt8) {R : Type} (k0 : List UInt8 → List UInt8 → Bool → Option R) : Option R :=
 (g.stringslite_Cut a1 a2 (fun r3 r4 r5 => k0 r3 r4 r5))
noncomputable def I_strings_Cut [Fuel] : C_strings_Cut := ⟨NN, @stringslite_Cut _⟩
noncomputable def strings_Cut [Fuel] : T_strings_Cut := @strings_Cut_ I_strings_Cut
def SS_strings_Cut (g : T_strings_Cut) : Spec A := fun args => match args with | [.d (.str a1), .d (.str a2)] => fun k => g a1 a2 (fun z0 z1 z2 => k (.tup [.d (.str z0), .d (.str z1), .d (.bool z2)]) [.undef, .undef]) | _ => fun _ => none
noncomputable def code_128 : Code := (Tryz.f128.body).getD .skip
noncomputable def E_strings_Cut (g : C_strings_Cut) : Env A := mkE [(173, SS_stringslite_Cut g.stringslite_Cut)] [] [] [] [] [] [] [] [] []
theorem sm_strings_Cut (g : C_strings_Cut) : Same (SS_strings_Cut (@strings_Cut_ g)) (abody (E_strings_Cut g) Tryz.f128 code_128 0 [] [.asis, .asis, .asis] g.N) := by intro args; unfold SS_strings_Cut; split; exact .inr fun R k => (by kernel_rfl); exact .inl fun R k => rfl
theorem ok_strings_Cut [Fuel] : Ok 128 (SS_strings_Cut (@strings_Cut _)) := okF_of std (.cons ok_stringslite_Cut .nil) ⟨rfl, rfl, by kernel_rfl, rfl, rfl, rfl⟩ (sm_strings_Cut I_strings_Cut) (cuts0 (fun _ => rfl) (by kernel_rfl)) Tryz.func128 (by kernel_rfl) (by kernel_rfl)
abbrev T_strings_IndexRune : Type 1 := List UInt8 → Int → {R : Type} → (Int → Option R) → Option R
def strings_IndexRune [Fuel] : T_strings_IndexRune := @X_ixr
def SS_strings_IndexRune (g : T_strings_IndexRune) : Spec A := SSX_ixr g
theorem ok_strings_IndexRune [Fuel] : Ok 280 (SS_strings_IndexRune (@strings_IndexRune _)) := ⟨ssx_ixr_sound (ixr_sound (fun s r w h0 h1 => Any.strings_IndexRune_ascii Tryz.lays152 s r w h0 h1)), ssx_ixr_nat, enters_of (fn := Tryz.f280) Tryz.func280 (by kernel_rfl) (by kernel_rfl)⟩
abbrev T_strings_shouldUseASCIISet : Type 1 := Int → {R : Type} → (Bool → Option R) → Option R
def strings_shouldUseASCIISet_ (g : Nat) (a1 : Int) {R : Type} (k0 : Bool → Option R) : Option R :=
 k0 (decide (a1 > 8))
noncomputable def strings_shouldUseASCIISet [Fuel] : T_strings_shouldUseASCIISet := @strings_shouldUseASCIISet_ NN
def SS_strings_shouldUseASCIISet (g : T_strings_shouldUseASCIISet) : Spec A := fun args => match args with | [.d (.int .i64 a1)] => fun k => g a1 (fun z0 => k (.d (.bool z0)) [.undef]) | _ => fun _ => none
noncomputable def code_281 : Code := (Tryz.f281.body).getD .skip
noncomputable def E_strings_shouldUseASCIISet (g : Nat) : Env A := mkE [] [] [] [] [] [] [] [] [] []
theorem sm_strings_shouldUseASCIISet (g : Nat) : Same (SS_strings_shouldUseASCIISet (@strings_shouldUseASCIISet_ g)) (abody (E_strings_shouldUseASCIISet g) Tryz.f281 code_281 0 [] [.asis] g) := by intro args; unfold SS_strings_shouldUseASCIISet; split; exact .inr fun R k => (by kernel_rfl); exact .inl fun R k => rfl
theorem ok_strings_shouldUseASCIISet [Fuel] : Ok 281 (SS_strings_shouldUseASCIISet (@strings_shouldUseASCIISet _)) := okF_of std .nil ⟨rfl, rfl, by kernel_rfl, rfl, rfl, rfl⟩ (sm_strings_shouldUseASCIISet NN) (cuts0 (fun _ => rfl) (by kernel_rfl)) Tryz.func281 (by kernel_rfl) (by kernel_rfl)
abbrev T_strings_makeASCIISet : Type 1 := List UInt8 → {R : Type} → Option R
def strings_makeASCIISet_ (g : Nat) (a1 : List UInt8) {R : Type}  : Option R :=
 none
noncomputable def strings_makeASCIISet [Fuel] : T_strings_makeASCIISet := @strings_makeASCIISet_ NN
def SS_strings_makeASCIISet (g : T_strings_makeASCIISet) : Spec A := fun args => match args with | [.d (.str a1)] => fun k => g a1 | _ => fun _ => none
noncomputable def code_226 : Code := (Tryz.f226.body).getD .skip
noncomputable def E_strings_makeASCIISet (g : Nat) : Env A := mkE [] [] [] [] [] [] [] [] [] []
noncomputable def cb_strings_makeASCIISet_L2 : Code := sub [1, 0, 1, 0, 0] code_226
theorem lf_strings_makeASCIISet_L2 [Fuel] : LoopFine (E_strings_makeASCIISet NN) NN cb_strings_makeASCIISet_L2 := no_loop (by kernel_rfl)
theorem sm_strings_makeASCIISet (g : Nat) : Same (SS_strings_makeASCIISet (@strings_makeASCIISet_ g)) (abody (E_strings_makeASCIISet g) Tryz.f226 code_226 0 [] [.asis, .asis] g) := by intro args; unfold SS_strings_makeASCIISet; split; exact .inr fun R k => (by kernel_rfl); exact .inl fun R k => rfl
theorem ok_strings_makeASCIISet [Fuel] : Ok 226 (SS_strings_makeASCIISet (@strings_makeASCIISet _)) := okF_of std .nil ⟨rfl, rfl, by kernel_rfl, rfl, rfl, rfl⟩ (sm_strings_makeASCIISet NN) (cutsL (fun _ => rfl) (.cons lf_strings_makeASCIISet_L2 .nil) (by kernel_rfl)) Tryz.func226 (by kernel_rfl) (by kernel_rfl)
abbrev T_utf8_RuneStart : Type 1 := Int → {R : Type} → Option R
def utf8_RuneStart_ (g : Nat) (a1 : Int) {R : Type}  : Option R :=
 none
noncomputable def utf8_RuneStart [Fuel] : T_utf8_RuneStart := @utf8_RuneStart_ NN
def SS_utf8_RuneStart (g : T_utf8_RuneStart) : Spec A := fun args => match args with | [.d (.int .u8 a1)] => fun k => g a1 | _ => fun _ => none
noncomputable def code_304 : Code := (Tryz.f304.body).getD .skip
noncomputable def E_utf8_RuneStart (g : Nat) : Env A := mkE [] [] [] [] [] [] [] [] [] []
theorem sm_utf8_RuneStart (g : Nat) : Same (SS_utf8_RuneStart (@utf8_RuneStart_ g)) (abody (E_utf8_RuneStart g) Tryz.f304 code_304 0 [] [.asis] g) := by intro args; unfold SS_utf8_RuneStart; split; exact .inr fun R k => (by kernel_rfl); exact .inl fun R k => rfl
theorem ok_utf8_RuneStart [Fuel] : Ok 304 (SS_utf8_RuneStart (@utf8_RuneStart _)) := okF_of std .nil ⟨rfl, rfl, by kernel_rfl, rfl, rfl, rfl⟩ (sm_utf8_RuneStart NN) (cuts0 (fun _ => rfl) (by kernel_rfl)) Tryz.func304 (by kernel_rfl) (by kernel_rfl)
abbrev T_utf8_decodeRuneInStringSlow : Type 1 := List UInt8 → {R : Type} → (Int → Int → Option R) → Option R
def utf8_decodeRuneInStringSlow_ (g : Nat) (a1 : List UInt8) {R : Type} (k0 : Int → Int → Option R) : Option R :=
 (bif (decide ((a1.length : Int) < 1)) then k0 65533 0 else (at_ a1 0 fun x2 => none))
noncomputable def utf8_decodeRuneInStringSlow [Fuel] : T_utf8_decodeRuneInStringSlow := @utf8_decodeRuneInStringSlow_ NN
def SS_utf8_decodeRuneInStringSlow (g : T_utf8_decodeRuneInStringSlow) : Spec A := fun args => match args with | [.d (.str a1)] => fun k => g a1 (fun z0 z1 => k (.tup [.d (.int .i32 z0), .d (.int .i64 z1)]) [.undef]) | _ => fun _ => none
noncomputable def code_301 : Code := (Tryz.f301.body).getD .skip
noncomputable def E_utf8_decodeRuneInStringSlow (g : Nat) : Env A := mkE [] [] [] [] [] [] [] [] [] []
theorem sm_utf8_decodeRuneInStringSlow (g : Nat) : Same (SS_utf8_decodeRuneInStringSlow (@utf8_decodeRuneInStringSlow_ g)) (abody (E_utf8_decodeRuneInStringSlow g) Tryz.f301 code_301 0 [] [.asis, .asis] g) := by intro args; unfold SS_utf8_decodeRuneInStringSlow; split; exact .inr fun R k => (by kernel_rfl); exact .inl fun R k => rfl
theorem ok_utf8_decodeRuneInStringSlow [Fuel] : Ok 301 (SS_utf8_decodeRuneInStringSlow (@utf8_decodeRuneInStringSlow _)) := okF_of std .nil ⟨rfl, rfl, by kernel_rfl, rfl, rfl, rfl⟩ (sm_utf8_decodeRuneInStringSlow NN) (cuts0 (fun _ => rfl) (by kernel_rfl)) Tryz.func301 (by kernel_rfl) (by kernel_rfl)
abbrev T_utf8_DecodeRuneInString : Type 1 := List UInt8 → {R : Type} → (Int → Int → Option R) → Option R
structure C_utf8_DecodeRuneInString where
 N : Nat
 utf8_decodeRuneInStringSlow : T_utf8_decodeRuneInStringSlow
def utf8_DecodeRuneInString_ (g : C_utf8_DecodeRuneInString) (a1 : List UInt8) {R : Type} (k0 : Int → Int → Option R) : Option R :=
 (bif (!(a1 == [])) then (at_ a1 0 fun x2 => (bif (decide ((x2.toNat : Int) < 128)) then (at_ a1 0 fun x3 => k0 (IntKind.i32.wrap (x3.toNat : Int)) 1) else (g.utf8_decodeRuneInStringSlow a1 (fun r4 r5 => k0 r4 r5)))) else (g.utf8_decodeRuneInStringSlow a1 (fun r6 r7 => k0 r6 r7)))
noncomputable def I_utf8_DecodeRuneInString [Fuel] : C_utf8_DecodeRuneInString := ⟨NN, @utf8_decodeRuneInStringSlow _⟩
noncomputable def utf8_DecodeRuneInString [Fuel] : T_utf8_DecodeRuneInString := @utf8_DecodeRuneInString_ I_utf8_DecodeRuneInString
def SS_utf8_DecodeRuneInString (g : T_utf8_DecodeRuneInString) : Spec A := fun args => match args with | [.d (.str a1)] => fun k => g a1 (fun z0 z1 => k (.tup [.d (.int .i32 z0), .d (.int .i64 z1)]) [.undef]) | _ => fun _ => none
noncomputable def code_262 : Code := (Tryz.f262.body).getD .skip
noncomputable def E_utf8_DecodeRuneInString (g : C_utf8_DecodeRuneInString) : Env A := mkE [(301, SS_utf8_decodeRuneInStringSlow g.utf8_decodeRuneInStringSlow)] [] [] [] [] [] [] [] [] []
theorem sm_utf8_DecodeRuneInString (g : C_utf8_DecodeRuneInString) : Same (SS_utf8_DecodeRuneInString (@utf8_DecodeRuneInString_ g)) (abody (E_utf8_DecodeRuneInString g) Tryz.f262 code_262 0 [] [.asis, .asis] g.N) := by intro args; unfold SS_utf8_DecodeRuneInString; split; exact .inr fun R k => (by kernel_rfl); exact .inl fun R k => rfl
theorem ok_utf8_DecodeRuneInString [Fuel] : Ok 262 (SS_utf8_DecodeRuneInString (@utf8_DecodeRuneInString _)) := okF_of std (.cons ok_utf8_decodeRuneInStringSlow .nil) ⟨rfl, rfl, by kernel_rfl, rfl, rfl, rfl⟩ (sm_utf8_DecodeRuneInString I_utf8_DecodeRuneInString) (cuts0 (fun _ => rfl) (by kernel_rfl)) Tryz.func262 (by kernel_rfl) (by kernel_rfl)
abbrev T_utf8_DecodeLastRuneInString : Type 1 := List UInt8 → {R : Type} → (Int → Int → Option R) → Option R
structure C_utf8_DecodeLastRuneInString where
 N : Nat
 utf8_DecodeRuneInString : T_utf8_DecodeRuneInString
 utf8_RuneStart : T_utf8_RuneStart
def utf8_DecodeLastRuneInString_L10 (g : C_utf8_DecodeLastRuneInString) : Nat → List UInt8 → Int → Int → Int → {R : Type} → (List UInt8 → Int → Int → Option R) → Option R
 | 0, _, _, _, _, _, _ => none
 | n + 1, v3, v4, v5, v6, _, e0 => (bif (decide (v5 ≥ v6)) then (get_ v3 v5 fun x8 => (g.utf8_RuneStart (x8.toNat : Int))) else e0 v3 v4 v5)
def utf8_DecodeLastRuneInString_ (g : C_utf8_DecodeLastRuneInString) (a1 : List UInt8) {R : Type} (k0 : Int → Int → Option R) : Option R :=
 (bif ((a1.length : Int) == 0) then k0 65533 0 else (get_ a1 (w64 ((a1.length : Int) - 1)) fun x2 => (bif (decide ((IntKind.i32.wrap (x2.toNat : Int)) < 128)) then k0 (IntKind.i32.wrap (x2.toNat : Int)) 1 else (utf8_DecodeLastRuneInString_L10 g g.N a1 (a1.length : Int) (w64 ((w64 ((a1.length : Int) - 1)) - 1)) (if 0 > (w64 ((a1.length : Int) - 4)) then 0 else (w64 ((a1.length : Int) - 4))) (fun e9 e10 e11 => (bif (decide (e11 < 0)) then (bif (decide (0 ≤ 0) && (decide (0 ≤ e10) && decide (e10 ≤ (e9.length : Int)))) then (g.utf8_DecodeRuneInString ((e9.take (e10 : Int).toNat).drop (0 : Int).toNat) (fun r12 r13 => (bif ((w64 (0 + r13)) != e10) then k0 65533 1 else k0 r12 r13))) else none) else (bif (decide (0 ≤ e11) && (decide (e11 ≤ e10) && decide (e10 ≤ (e9.length : Int)))) then (g.utf8_DecodeRuneInString ((e9.take (e10 : Int).toNat).drop (e11 : Int).toNat) (fun r14 r15 => (bif ((w64 (e11 + r15)) != e10) then k0 65533 1 else k0 r14 r15))) else none)))))))
noncomputable def I_utf8_DecodeLastRuneInString [Fuel] : C_utf8_DecodeLastRuneInString := ⟨NN, @utf8_DecodeRuneInString _, @utf8_RuneStart _⟩
noncomputable def utf8_DecodeLastRuneInString [Fuel] : T_utf8_DecodeLastRuneInString := @utf8_DecodeLastRuneInString_ I_utf8_DecodeLastRuneInString
def SS_utf8_DecodeLastRuneInString (g : T_utf8_DecodeLastRuneInString) : Spec A := fun args => match args with | [.d (.str a1)] => fun k => g a1 (fun z0 z1 => k (.tup [.d (.int .i32 z0), .d (.int .i64 z1)]) [.undef]) | _ => fun _ => none
def sh_utf8_DecodeLastRuneInString_L10 : SSt := mkSh 51 0 [(0, .str), (4, .int .i64), (5, .int .i64), (6, .int .i64)] []
def LP_utf8_DecodeLastRuneInString_L10 (g : C_utf8_DecodeLastRuneInString) (n : Nat) : LPT A := fun ps => match ps with | [.d (.str p1), .d (.int .i64 p2), .d (.int .i64 p3), .d (.int .i64 p4)] => fun K => utf8_DecodeLastRuneInString_L10 g n p1 p2 p3 p4 (fun z0 z1 z2 => K (.exit 0) (mkSt 51 0 [(0, .d (.str z0)), (4, .d (.int .i64 z1)), (5, .d (.int .i64 z2))] [])) | _ => fun _ => none
noncomputable def code_274 : Code := (Tryz.f274.body).getD .skip
noncomputable def E_utf8_DecodeLastRuneInString (g : C_utf8_DecodeLastRuneInString) : Env A := mkE [(262, SS_utf8_DecodeRuneInString g.utf8_DecodeRuneInString), (304, SS_utf8_RuneStart g.utf8_RuneStart)] [] [(10, ⟨[0, 4, 5, 6], [], [], [], [], [], []⟩)] [(10, ⟨[0, 4, 5], [], [], [], [], [], []⟩)] [(10, pieceOf sh_utf8_DecodeLastRuneInString_L10 (LP_utf8_DecodeLastRuneInString_L10 g g.N))] [] [] [] [] []
theorem ct_utf8_DecodeLastRuneInString [Fuel] : NatTab (E_utf8_DecodeLastRuneInString I_utf8_DecodeLastRuneInString).C := ct_of (P := Tryz.prog) (T := T) (.cons ok_utf8_DecodeRuneInString (.cons ok_utf8_RuneStart .nil)) (by kernel_rfl)
noncomputable def cb_utf8_DecodeLastRuneInString_L10 : Code := sub [1, 1, 1, 1, 1, 1, 1, 0, 1, 0, 0] code_274
theorem s_utf8_DecodeLastRuneInString_L10 (g : C_utf8_DecodeLastRuneInString) (n : Nat) : StepOk (E_utf8_DecodeLastRuneInString g) g.N cb_utf8_DecodeLastRuneInString_L10 sh_utf8_DecodeLastRuneInString_L10 (LP_utf8_DecodeLastRuneInString_L10 g) n := by intro ps; unfold LP_utf8_DecodeLastRuneInString_L10; split; exact .inr fun R K => (by kernel_rfl); exact .inl fun R K => rfl
theorem lf_utf8_DecodeLastRuneInString_L10 [Fuel] : LoopFine (E_utf8_DecodeLastRuneInString I_utf8_DecodeLastRuneInString) NN cb_utf8_DecodeLastRuneInString_L10 := fine_loop sh_utf8_DecodeLastRuneInString_L10 (LP_utf8_DecodeLastRuneInString_L10 I_utf8_DecodeLastRuneInString) (by kernel_rfl) ct_utf8_DecodeLastRuneInString (cuts0 (fun _ => rfl) (by kernel_rfl)) (fun ps R K => by unfold LP_utf8_DecodeLastRuneInString_L10; split <;> (try unfold utf8_DecodeLastRuneInString_L10) <;> rfl) (s_utf8_DecodeLastRuneInString_L10 I_utf8_DecodeLastRuneInString)
theorem sm_utf8_DecodeLastRuneInString (g : C_utf8_DecodeLastRuneInString) : Same (SS_utf8_DecodeLastRuneInString (@utf8_DecodeLastRuneInString_ g)) (abody (E_utf8_DecodeLastRuneInString g) Tryz.f274 code_274 0 [] [.asis, .asis] g.N) := by intro args; unfold SS_utf8_DecodeLastRuneInString; split; exact .inr fun R k => (by kernel_rfl); exact .inl fun R k => rfl
theorem ok_utf8_DecodeLastRuneInString [Fuel] : Ok 274 (SS_utf8_DecodeLastRuneInString (@utf8_DecodeLastRuneInString _)) := okF_of std (.cons ok_utf8_DecodeRuneInString (.cons ok_utf8_RuneStart .nil)) ⟨rfl, rfl, by kernel_rfl, rfl, rfl, rfl⟩ (sm_utf8_DecodeLastRuneInString I_utf8_DecodeLastRuneInString) (cutsL (fun _ => rfl) (.cons lf_utf8_DecodeLastRuneInString_L10 .nil) (by kernel_rfl)) Tryz.func274 (by kernel_rfl) (by kernel_rfl)
abbrev T_strings_LastIndexAny_w : Type 1 := List UInt8 → List UInt8 → {R : Type} → (Int → Option R) → Option R
structure C_strings_LastIndexAny_w where
 N : Nat
 strings_makeASCIISet : T_strings_makeASCIISet
 utf8_DecodeLastRuneInString : T_utf8_DecodeLastRuneInString
 strings_IndexRune : T_strings_IndexRune
 strings_shouldUseASCIISet : T_strings_shouldUseASCIISet
def strings_LastIndexAny_w_L24 (g : C_strings_LastIndexAny_w) : Nat → List UInt8 → Int → Int → {R : Type} → (Int → Option R) → Option R → Option R
 | 0, _, _, _, _, _, _ => none
 | n + 1, v8, v9, v10, _, e0, e1 => (bif (decide (v10 > 0)) then (bif (decide (0 ≤ v10) && decide (v10 ≤ (v8.length : Int))) then (g.utf8_DecodeLastRuneInString (v8.take (v10 : Int).toNat) (fun r13 r14 => (bif (v9 == r13) then e0 (w64 (v10 - r14)) else strings_LastIndexAny_w_L24 g n v8 v9 (w64 (v10 - r14)) e0 e1))) else none) else e1)
def strings_LastIndexAny_w_L31 (g : C_strings_LastIndexAny_w) : Nat → List UInt8 → List UInt8 → Int → {R : Type} → (Int → Option R) → Option R → Option R
 | 0, _, _, _, _, _, _ => none
 | n + 1, v17, v18, v19, _, e0, e1 => (bif (decide (v19 > 0)) then (bif (decide (0 ≤ v19) && decide (v19 ≤ (v17.length : Int))) then (g.utf8_DecodeLastRuneInString (v17.take (v19 : Int).toNat) (fun r23 r24 => (g.strings_IndexRune v18 r23 (fun r25 => (bif (decide (r25 ≥ 0)) then e0 (w64 (v19 - r24)) else strings_LastIndexAny_w_L31 g n v17 v18 (w64 (v19 - r24)) e0 e1))))) else none) else e1)
def strings_LastIndexAny_w_ (g : C_strings_LastIndexAny_w) (a1 a2 : List UInt8) {R : Type} (k0 : Int → Option R) : Option R :=
 (bif (a2 == []) then k0 (-1) else (bif ((a1.length : Int) == 1) then (at_ a1 0 fun x3 => (bif (decide ((IntKind.i32.wrap (x3.toNat : Int)) ≥ 128)) then (g.strings_IndexRune a2 65533 (fun r4 => (bif (decide (r4 ≥ 0)) then k0 0 else k0 (-1)))) else (g.strings_IndexRune a2 (IntKind.i32.wrap (x3.toNat : Int)) (fun r5 => (bif (decide (r5 ≥ 0)) then k0 0 else k0 (-1)))))) else (g.strings_shouldUseASCIISet (a1.length : Int) (fun r6 => (bif r6 then (g.strings_makeASCIISet a2) else (bif ((a2.length : Int) == 1) then (at_ a2 0 fun x7 => (bif (decide ((IntKind.i32.wrap (x7.toNat : Int)) ≥ 128)) then (strings_LastIndexAny_w_L24 g g.N a1 65533 (a1.length : Int) (fun e15 => k0 e15) (k0 (-1))) else (strings_LastIndexAny_w_L24 g g.N a1 (IntKind.i32.wrap (x7.toNat : Int)) (a1.length : Int) (fun e16 => k0 e16) (k0 (-1))))) else (strings_LastIndexAny_w_L31 g g.N a1 a2 (a1.length : Int) (fun e26 => k0 e26) (k0 (-1)))))))))
noncomputable def I_strings_LastIndexAny_w [Fuel] : C_strings_LastIndexAny_w := ⟨NN, @strings_makeASCIISet _, @utf8_DecodeLastRuneInString _, @strings_IndexRune _, @strings_shouldUseASCIISet _⟩
noncomputable def strings_LastIndexAny_w [Fuel] : T_strings_LastIndexAny_w := @strings_LastIndexAny_w_ I_strings_LastIndexAny_w
def SS_strings_LastIndexAny_w (g : T_strings_LastIndexAny_w) : Spec A := fun args => match args with | [.d (.str a1), .d (.str a2)] => fun k => g a1 a2 (fun z0 => k (.d (.int .i64 z0)) [.undef, .undef]) | _ => fun _ => none
def sh_strings_LastIndexAny_w_L24 : SSt := mkSh 96 0 [(0, .str), (9, .int .i32), (10, .int .i64)] []
def LP_strings_LastIndexAny_w_L24 (g : C_strings_LastIndexAny_w) (n : Nat) : LPT A := fun ps => match ps with | [.d (.str p1), .d (.int .i32 p2), .d (.int .i64 p3)] => fun K => strings_LastIndexAny_w_L24 g n p1 p2 p3 (fun z0 => K .ret (mkSt 96 0 [(4, .d (.int .i64 z0))] [])) (K (.exit 2) (mkSt 96 0 [] [])) | _ => fun _ => none
def sh_strings_LastIndexAny_w_L31 : SSt := mkSh 96 0 [(0, .str), (1, .str), (13, .int .i64)] []
def LP_strings_LastIndexAny_w_L31 (g : C_strings_LastIndexAny_w) (n : Nat) : LPT A := fun ps => match ps with | [.d (.str p1), .d (.str p2), .d (.int .i64 p3)] => fun K => strings_LastIndexAny_w_L31 g n p1 p2 p3 (fun z0 => K .ret (mkSt 96 0 [(4, .d (.int .i64 z0))] [])) (K (.exit 4) (mkSt 96 0 [] [])) | _ => fun _ => none
noncomputable def code_235 : Code := (Tryz.f235.body).getD .skip
noncomputable def E_strings_LastIndexAny_w (g : C_strings_LastIndexAny_w) : Env A := mkE [(226, SS_strings_makeASCIISet g.strings_makeASCIISet), (274, SS_utf8_DecodeLastRuneInString g.utf8_DecodeLastRuneInString), (280, SS_strings_IndexRune g.strings_IndexRune), (281, SS_strings_shouldUseASCIISet g.strings_shouldUseASCIISet)] [] [(24, ⟨[0, 9, 10], [], [], [], [], [], []⟩), (31, ⟨[0, 1, 13], [], [], [], [], [], []⟩)] [(24, ⟨[4], [], [], [], [], [], []⟩), (31, ⟨[4], [], [], [], [], [], []⟩)] [(24, pieceOf sh_strings_LastIndexAny_w_L24 (LP_strings_LastIndexAny_w_L24 g g.N)), (31, pieceOf sh_strings_LastIndexAny_w_L31 (LP_strings_LastIndexAny_w_L31 g g.N))] [] [] [] [] []
theorem ct_strings_LastIndexAny_w [Fuel] : NatTab (E_strings_LastIndexAny_w I_strings_LastIndexAny_w).C := ct_of (P := Tryz.prog) (T := T) (.cons ok_strings_makeASCIISet (.cons ok_utf8_DecodeLastRuneInString (.cons ok_strings_IndexRune (.cons ok_strings_shouldUseASCIISet .nil)))) (by kernel_rfl)
noncomputable def cb_strings_LastIndexAny_w_L14 : Code := sub [1, 1, 1, 0, 1, 0, 1, 1, 0, 0, 1, 0, 0] code_235
theorem lf_strings_LastIndexAny_w_L14 [Fuel] : LoopFine (E_strings_LastIndexAny_w I_strings_LastIndexAny_w) NN cb_strings_LastIndexAny_w_L14 := no_loop (by kernel_rfl)
noncomputable def cb_strings_LastIndexAny_w_L24 : Code := sub [1, 1, 1, 1, 0, 1, 0, 1, 1, 0, 1, 0, 0] code_235
theorem s_strings_LastIndexAny_w_L24 (g : C_strings_LastIndexAny_w) (n : Nat) : StepOk (E_strings_LastIndexAny_w g) g.N cb_strings_LastIndexAny_w_L24 sh_strings_LastIndexAny_w_L24 (LP_strings_LastIndexAny_w_L24 g) n := by intro ps; unfold LP_strings_LastIndexAny_w_L24; split; exact .inr fun R K => (by kernel_rfl); exact .inl fun R K => rfl
theorem lf_strings_LastIndexAny_w_L24 [Fuel] : LoopFine (E_strings_LastIndexAny_w I_strings_LastIndexAny_w) NN cb_strings_LastIndexAny_w_L24 := fine_loop sh_strings_LastIndexAny_w_L24 (LP_strings_LastIndexAny_w_L24 I_strings_LastIndexAny_w) (by kernel_rfl) ct_strings_LastIndexAny_w (cuts0 (fun _ => rfl) (by kernel_rfl)) (fun ps R K => by unfold LP_strings_LastIndexAny_w_L24; split <;> (try unfold strings_LastIndexAny_w_L24) <;> rfl) (s_strings_LastIndexAny_w_L24 I_strings_LastIndexAny_w)
noncomputable def cb_strings_LastIndexAny_w_L31 : Code := sub [1, 1, 1, 1, 1, 0, 1, 0, 0] code_235
theorem s_strings_LastIndexAny_w_L31 (g : C_strings_LastIndexAny_w) (n : Nat) : StepOk (E_strings_LastIndexAny_w g) g.N cb_strings_LastIndexAny_w_L31 sh_strings_LastIndexAny_w_L31 (LP_strings_LastIndexAny_w_L31 g) n := by intro ps; unfold LP_strings_LastIndexAny_w_L31; split; exact .inr fun R K => (by kernel_rfl); exact .inl fun R K => rfl
theorem lf_strings_LastIndexAny_w_L31 [Fuel] : LoopFine (E_strings_LastIndexAny_w I_strings_LastIndexAny_w) NN cb_strings_LastIndexAny_w_L31 := fine_loop sh_strings_LastIndexAny_w_L31 (LP_strings_LastIndexAny_w_L31 I_strings_LastIndexAny_w) (by kernel_rfl) ct_strings_LastIndexAny_w (cuts0 (fun _ => rfl) (by kernel_rfl)) (fun ps R K => by unfold LP_strings_LastIndexAny_w_L31; split <;> (try unfold strings_LastIndexAny_w_L31) <;> rfl) (s_strings_LastIndexAny_w_L31 I_strings_LastIndexAny_w)
theorem sm_strings_LastIndexAny_w (g : C_strings_LastIndexAny_w) : Same (SS_strings_LastIndexAny_w (@strings_LastIndexAny_w_ g)) (abody (E_strings_LastIndexAny_w g) Tryz.f235 code_235 0 [] [.asis] g.N) := by intro args; unfold SS_strings_LastIndexAny_w; split; exact .inr fun R k => (by kernel_rfl); exact .inl fun R k => rfl
theorem ok_strings_LastIndexAny_w [Fuel] : Ok 235 (SS_strings_LastIndexAny_w (@strings_LastIndexAny_w _)) := okF_of std (.cons ok_strings_makeASCIISet (.cons ok_utf8_DecodeLastRuneInString (.cons ok_strings_IndexRune (.cons ok_strings_shouldUseASCIISet .nil)))) ⟨rfl, rfl, by kernel_rfl, rfl, rfl, rfl⟩ (sm_strings_LastIndexAny_w I_strings_LastIndexAny_w) (cutsL (fun _ => rfl) (.cons lf_strings_LastIndexAny_w_L14 (.cons lf_strings_LastIndexAny_w_L24 (.cons lf_strings_LastIndexAny_w_L31 .nil))) (by kernel_rfl)) Tryz.func235 (by kernel_rfl) (by kernel_rfl)
abbrev T_strings_LastIndexAny : Type 1 := List UInt8 → List UInt8 → {R : Type} → (Int → Option R) → Option R
noncomputable def strings_LastIndexAny [Fuel] : T_strings_LastIndexAny := X_lia (@strings_LastIndexAny_w _)
def SS_strings_LastIndexAny (g : T_strings_LastIndexAny) : Spec A := SSX_lia g
theorem h1_strings_LastIndexAny [Fuel] (a b : List UInt8) (R : Type) (k : IV A → List (IV A) → Option R) : SS_strings_LastIndexAny_w (@strings_LastIndexAny_w _) [.d (.str a), .d (.str b)] k = @strings_LastIndexAny_w _ a b R (fun z => k (.d (.int .i64 z)) [.undef, .undef]) := by kernel_rfl
theorem ok_strings_LastIndexAny [Fuel] : Ok 235 (SS_strings_LastIndexAny (@strings_LastIndexAny _)) := ⟨lia_fs (lia_sound rfl (fun s c w h1 h2 h3 h4 h5 => (Go.Proofs.Tryz.lia s c w h1 h2 h3 h4 h5).mono (fun e w h => ⟨h.1, _, _, _, _, h.2⟩))) ok_strings_LastIndexAny_w.fs h1_strings_LastIndexAny, lia_na ok_strings_LastIndexAny_w.na h1_strings_LastIndexAny, enters_of (fn := Tryz.f235) Tryz.func235 (by kernel_rfl) (by kernel_rfl)⟩
abbrev T_R_in : Type 1 := Int → Int → Int → {R : Type} → (Bool → Option R) → Option R
def R_in_ (g : Nat) (a1 a2 a3 : Int) {R : Type} (k0 : Bool → Option R) : Option R :=
 (bif (decide (a2 ≤ a1)) then k0 (decide (a1 ≤ a3)) else k0 false)
noncomputable def R_in [Fuel] : T_R_in := @R_in_ NN
def SS_R_in (g : T_R_in) : Spec A := fun args => match args with | [.d (.int .i64 a1), .d (.int .i64 a2), .d (.int .i64 a3)] => fun k => g a1 a2 a3 (fun z0 => k (.d (.bool z0)) [.undef, .undef, .undef]) | _ => fun _ => none
noncomputable def code_237 : Code := (Tryz.f237.body).getD .skip
noncomputable def E_R_in (g : Nat) : Env A := mkE [] [] [] [] [] [] [] [] [] []
theorem sm_R_in (g : Nat) : Same (SS_R_in (@R_in_ g)) (abody (E_R_in g) Tryz.f237 code_237 0 [] [.asis] g) := by intro args; unfold SS_R_in; split; exact .inr fun R k => (by kernel_rfl); exact .inl fun R k => rfl
theorem ok_R_in [Fuel] : Ok 237 (SS_R_in (@R_in _)) := okF_of std .nil ⟨rfl, rfl, by kernel_rfl, rfl, rfl, rfl⟩ (sm_R_in NN) (cuts0 (fun _ => rfl) (by kernel_rfl)) Tryz.func237 (by kernel_rfl) (by kernel_rfl)
abbrev T_strings_Trim : Type 1 := List UInt8 → List UInt8 → {R : Type} → (List UInt8 → Option R) → Option R
def strings_Trim [Fuel] : T_strings_Trim := @X_trim
def SS_strings_Trim (g : T_strings_Trim) : Spec A := SSX_trim g
theorem ok_strings_Trim [Fuel] : Ok 179 (SS_strings_Trim (@strings_Trim _)) := ⟨ssx_trim_sound (trim_sound rfl (fun s cs w h1 h2 h3 => Any.strings_Trim_laid Tryz.lays160 (by kernel_rfl) s cs w h1 h2 h3)), ssx_trim_nat, enters_of (fn := Tryz.f179) Tryz.func179 (by kernel_rfl) (by kernel_rfl)⟩
abbrev T_strings_ContainsAny : Type 1 := List UInt8 → List UInt8 → {R : Type} → (Bool → Option R) → Option R
def strings_ContainsAny [Fuel] : T_strings_ContainsAny := @X_cany
def SS_strings_ContainsAny (g : T_strings_ContainsAny) : Spec A := SSX_cany g
theorem ok_strings_ContainsAny [Fuel] : Ok 238 (SS_strings_ContainsAny (@strings_ContainsAny _)) := ⟨ssx_cany_sound (cany_sound rfl (fun s cs w h1 h2 h3 h4 => Any.strings_ContainsAny_laid Tryz.lays150 (by kernel_rfl) s cs w h1 h2 h3 h4)), ssx_cany_nat, enters_of (fn := Tryz.f238) Tryz.func238 (by kernel_rfl) (by kernel_rfl)⟩
end Go.Am
