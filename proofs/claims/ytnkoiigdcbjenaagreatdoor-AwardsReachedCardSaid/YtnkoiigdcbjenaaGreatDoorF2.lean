/- The functions of the program as Lean functions, each shown to be what the code computes, part 2. No condition: lemmas for the claim. -/
import Derived.Test.YtnkoiigdcbjenaaGreatDoorF0
import Derived.Test.YtnkoiigdcbjenaaGreatDoorFSh
import Derived.Test.YtnkoiigdcbjenaaGreatDoorF1
set_option linter.unusedVariables false
set_option maxRecDepth 100000
namespace Go.Am
open Go Go.Proofs
abbrev T_slices_Compact__Card : Type 1 := List G_Card → {R : Type} → (List G_Card → Option R) → Option R
def slices_Compact__Card_L9 (g : Nat) : Nat → Int → Int → Int → Int → List G_Card → {R : Type} → (Int → List G_Card → Option R) → Option R
  | 0, _, _, _, _, _, _, _ => none
  | n + 1, v23, v24, v25, v26, v27, _, e0 => (bif (decide (v26 < ((v25 - v24).toNat : Int))) then (bif (decide (0 ≤ v26) && (decide (v26 < v25 - v24) && decide (v24 + v26 < (v27.length : Int)))) then (at_ v27 (v24 + v26) fun x32 => (bif (decide (0 ≤ (w64 (v26 - 1))) && (decide ((w64 (v26 - 1)) < v25 - v24) && decide (v24 + (w64 (v26 - 1)) < (v27.length : Int)))) then (at_ v27 (v24 + (w64 (v26 - 1))) fun x33 => (bif (!(eq_G_Card x32 x33)) then (bif (decide (0 ≤ v26) && (decide (v26 < v25 - v24) && decide (v24 + v26 < (v27.length : Int)))) then (at_ v27 (v24 + v26) fun x34 => (inr v27 v23 (at_ v27 v23 fun x35 => slices_Compact__Card_L9 g n (w64 (v23 + 1)) v24 v25 (w64 (v26 + 1)) (set_ v27 v23 x34) e0))) else none) else slices_Compact__Card_L9 g n v23 v24 v25 (w64 (v26 + 1)) v27 e0)) else none)) else none) else e0 v23 v27)
def slices_Compact__Card_L4 (g : Nat) : Nat → Int → List G_Card → {R : Type} → (List G_Card → Option R) → (List G_Card → Option R) → Option R
  | 0, _, _, _, _, _ => none
  | n + 1, v2, v3, _, e0, e1 => (bif (decide (v2 < (v3.length : Int))) then (inr v3 v2 (at_ v3 v2 fun x21 => (inr v3 (w64 (v2 - 1)) (at_ v3 (w64 (v2 - 1)) fun x22 => (bif (eq_G_Card x21 x22) then (bif (decide (0 < v3.length) && (decide (0 ≤ v2) && decide (v2 ≤ (v3.length : Int)))) then (slices_Compact__Card_L9 g g v2 v2 (v3.length : Int) 1 v3 (fun e36 e37 => (bif (decide (0 < e37.length) && (decide (0 ≤ e36) && decide (e36 ≤ (e37.length : Int)))) then (bif (decide (0 ≤ e36) && (decide (e36 ≤ (e37.length : Int)) && decide (((e37.length : Int)).toNat ≤ e37.length))) then (bif (decide (0 ≤ e36) && decide (e36 ≤ ((e37.take (e36).toNat ++ (List.replicate ((e37.length : Int) - e36).toNat (⟨0, 0, 0, [], []⟩ : G_Card) ++ e37.drop ((e37.length : Int)).toNat)).length : Int))) then e0 ((e37.take (e36).toNat ++ (List.replicate ((e37.length : Int) - e36).toNat (⟨0, 0, 0, [], []⟩ : G_Card) ++ e37.drop ((e37.length : Int)).toNat)).take (e36 : Int).toNat) else none) else none) else none))) else none) else slices_Compact__Card_L4 g n (w64 (v2 + 1)) v3 e0 e1))))) else e1 v3)
def slices_Compact__Card_ (g : Nat) (a1 : List G_Card) {R : Type} (k0 : List G_Card → Option R) : Option R :=
  (bif (decide ((a1.length : Int) < 2)) then k0 a1 else (slices_Compact__Card_L4 g g 1 a1 (fun e38 => k0 e38) (fun e39 => k0 e39)))
noncomputable def slices_Compact__Card [Fuel] : T_slices_Compact__Card := @slices_Compact__Card_ NN
def SS_slices_Compact__Card (g : T_slices_Compact__Card) : Spec A := fun args => match args with | [.arr 82 a1] => fun k => g a1 (fun z0 => k (.arr 82 z0) [.undef]) | _ => fun _ => none
def sh_slices_Compact__Card_L9 : SSt := mkSh 61 6 [(0, .own 82 0), (3, .int .i64), (4, .vw 82 0), (5, .int .i64)] [(0, .row 82)]
def LP_slices_Compact__Card_L9 (g : Nat) (n : Nat) : LPT A := fun ps => match ps with | [.d (.int .i64 p1), .z p2, .z p3, .d (.int .i64 p4), .d (.sl 82 p5)] => fun K => slices_Compact__Card_L9 g n p1 p2 p3 p4 p5 (fun z0 z1 => K (.exit 2) (mkSt 61 6 [(0, .own 82 0), (3, .d (.int .i64 z0))] [(0, some (.row 82 z1))])) | _ => fun _ => none
def sh_slices_Compact__Card_L4 : SSt := mkSh 61 6 [(0, .own 82 0), (3, .int .i64)] [(0, .row 82)]
def LP_slices_Compact__Card_L4 (g : Nat) (n : Nat) : LPT A := fun ps => match ps with | [.d (.int .i64 p1), .d (.sl 82 p2)] => fun K => slices_Compact__Card_L4 g n p1 p2 (fun z0 => K .ret (mkSt 61 6 [(0, .own 82 0), (2, .own 82 5)] [(5, some (.row 82 z0))])) (fun z0 => K (.exit 0) (mkSt 61 6 [(0, .own 82 0)] [(0, some (.row 82 z0))])) | _ => fun _ => none
noncomputable def code_47 : Code := (Tryz.f47.body).getD .skip
noncomputable def E_slices_Compact__Card (g : Nat) : Env A := mkE [] [(28, [1, 2]), (56, [3, 4]), (59, [5])] [(9, ⟨[0, 3, 4, 5], [], [0], []⟩), (4, ⟨[0, 3], [], [0], []⟩)] [(9, ⟨[0, 3], [], [0], []⟩), (4, ⟨[0, 2], [], [0, 5], []⟩)] [(9, pieceOf sh_slices_Compact__Card_L9 (LP_slices_Compact__Card_L9 g g)), (4, pieceOf sh_slices_Compact__Card_L4 (LP_slices_Compact__Card_L4 g g))] [] [] [] [] []
theorem ct_slices_Compact__Card [Fuel] : NatTab (E_slices_Compact__Card NN).C := ct_of (P := Tryz.prog) (T := T) .nil (by kernel_rfl)
noncomputable def cb_slices_Compact__Card_L9 : Code := sub [1, 1, 0, 1, 0, 0, 1, 0, 0, 1, 0, 1, 0, 1, 0, 0] code_47
theorem s_slices_Compact__Card_L9 (g : Nat) (n : Nat) : StepOk (E_slices_Compact__Card g) g cb_slices_Compact__Card_L9 sh_slices_Compact__Card_L9 (LP_slices_Compact__Card_L9 g) n := by intro ps; unfold LP_slices_Compact__Card_L9; split; exact .inr fun R K => (by kernel_rfl); exact .inl fun R K => rfl
theorem lf_slices_Compact__Card_L9 [Fuel] : LoopFine (E_slices_Compact__Card NN) NN cb_slices_Compact__Card_L9 := fine_loop sh_slices_Compact__Card_L9 (LP_slices_Compact__Card_L9 NN) (by kernel_rfl) ct_slices_Compact__Card (cuts0 (fun _ => rfl) (by kernel_rfl)) (fun ps R K => by unfold LP_slices_Compact__Card_L9; split <;> (try unfold slices_Compact__Card_L9) <;> rfl) (s_slices_Compact__Card_L9 NN)
noncomputable def cb_slices_Compact__Card_L4 : Code := sub [1, 1, 0, 1, 0, 0] code_47
theorem s_slices_Compact__Card_L4 (g : Nat) (n : Nat) : StepOk (E_slices_Compact__Card g) g cb_slices_Compact__Card_L4 sh_slices_Compact__Card_L4 (LP_slices_Compact__Card_L4 g) n := by intro ps; unfold LP_slices_Compact__Card_L4; split; exact .inr fun R K => (by kernel_rfl); exact .inl fun R K => rfl
theorem lf_slices_Compact__Card_L4 [Fuel] : LoopFine (E_slices_Compact__Card NN) NN cb_slices_Compact__Card_L4 := fine_loop sh_slices_Compact__Card_L4 (LP_slices_Compact__Card_L4 NN) (by kernel_rfl) ct_slices_Compact__Card (cutsL (fun _ => rfl) (.cons lf_slices_Compact__Card_L9 .nil) (by kernel_rfl)) (fun ps R K => by unfold LP_slices_Compact__Card_L4; split <;> (try unfold slices_Compact__Card_L4) <;> rfl) (s_slices_Compact__Card_L4 NN)
theorem sm_slices_Compact__Card (g : Nat) : Same (SS_slices_Compact__Card (@slices_Compact__Card_ g)) (abody (E_slices_Compact__Card g) Tryz.f47 code_47 6 [0] [.arr 82] g) := by intro args; unfold SS_slices_Compact__Card; split; exact .inr fun R k => (by kernel_rfl); exact .inl fun R k => rfl
theorem ok_slices_Compact__Card [Fuel] : Ok 47 (SS_slices_Compact__Card (@slices_Compact__Card _)) := okF_of std .nil ⟨rfl, rfl, by kernel_rfl, rfl, rfl⟩ (sm_slices_Compact__Card NN) (cutsL (fun _ => rfl) (.cons lf_slices_Compact__Card_L9 (.cons lf_slices_Compact__Card_L4 .nil)) (by kernel_rfl)) Tryz.func47 (by kernel_rfl) (by kernel_rfl)
abbrev T_Stream_Cards : Type 1 := G_Stream → Int → {R : Type} → (List G_Card → G_Stream → Option R) → Option R
structure C_Stream_Cards where
  N : Nat
  Stream_Pick : T_Stream_Pick
  Stream_ACall : T_Stream_ACall
  Stream_Flip : T_Stream_Flip
  Stream_Some : T_Stream_Some
  Stream_Odd : T_Stream_Odd
  slices_SortStableFunc__Card_Q_CardOrder : T_slices_SortStableFunc__Card_Q_CardOrder
  slices_Compact__Card : T_slices_Compact__Card
def Stream_Cards_L4 (g : C_Stream_Cards) : Nat → Int → Int → Int → G_Stream → List G_Card → {R : Type} → (G_Stream → List G_Card → Option R) → Option R
  | 0, _, _, _, _, _, _, _ => none
  | n + 1, v3, v4, v5, v6, v7, _, e0 => (bif (decide (v5 < v4)) then (g.Stream_Pick v6 [0, 1, 5, 20] (fun r28 r29 => (g.Stream_Pick r29 [1, 2, 2, 2, 3] (fun r30 r31 => (g.Stream_Pick r31 [1, 1, 2] (fun r32 r33 => (g.Stream_ACall r33 (fun r34 r35 => (g.Stream_Some r35 [[98, 50, 48], [98, 50, 48], [98, 52, 48]] (fun r36 r37 => (g.Stream_Flip r37 100 (fun r38 r39 => (bif r38 then (g.Stream_Odd r39 0 50 (fun r40 r41 => (g.Stream_Odd r41 1 3 (fun r42 r43 => (g.Stream_Odd r43 1 3 (fun r44 r45 => (g.Stream_Some r45 [[], [98, 50, 48]] (fun r46 r47 => (bif (decide ((v7.length + [(⟨r40, r42, r44, r34, r46⟩ : G_Card)].length) * 56 ≤ roomBytes')) then Stream_Cards_L4 g n (w64 (v3 + r28)) v4 (w64 (v5 + 1)) r47 (v7 ++ [(⟨r40, r42, r44, r34, r46⟩ : G_Card)]) e0 else none))))))))) else (bif (decide ((v7.length + [(⟨(w64 (v3 + r28)), r30, r32, r34, r36⟩ : G_Card)].length) * 56 ≤ roomBytes')) then Stream_Cards_L4 g n (w64 (v3 + r28)) v4 (w64 (v5 + 1)) r39 (v7 ++ [(⟨(w64 (v3 + r28)), r30, r32, r34, r36⟩ : G_Card)]) e0 else none)))))))))))))) else e0 v6 v7)
def Stream_Cards_ (g : C_Stream_Cards) (a1 : G_Stream) (a2 : Int) {R : Type} (k0 : List G_Card → G_Stream → Option R) : Option R :=
  (Stream_Cards_L4 g g.N 0 a2 0 a1 [] (fun e48 e49 => (g.slices_SortStableFunc__Card_Q_CardOrder e49 (fun r50 => (g.slices_Compact__Card r50 (fun r51 => k0 r51 e48))))))
noncomputable def I_Stream_Cards [Fuel] : C_Stream_Cards := ⟨NN, @Stream_Pick _, @Stream_ACall _, @Stream_Flip _, @Stream_Some _, @Stream_Odd _, @slices_SortStableFunc__Card_Q_CardOrder _, @slices_Compact__Card _⟩
noncomputable def Stream_Cards [Fuel] : T_Stream_Cards := @Stream_Cards_ I_Stream_Cards
def SS_Stream_Cards (g : T_Stream_Cards) : Spec A := fun args => match args with | [.box [.d (.sl 3 a1), .d (.int .i64 a2)], .d (.int .i64 a3)] => fun k => g ⟨a1, a2⟩ a3 (fun z0 z1 => k (.arr 82 z0) [.box [.d (.sl 3 z1.f_L), .d (.int .i64 z1.f_at)], .undef]) | _ => fun _ => none
def sh_Stream_Cards_L4 : SSt := mkSh 53 11 [(0, .ptr 0 0), (5, .own 82 1), (6, .int .i64), (8, .int .i64), (9, .int .i64)] [(0, .box [.sl 3, .int .i64]), (1, .row 82)]
def LP_Stream_Cards_L4 (g : C_Stream_Cards) (n : Nat) : LPT A := fun ps => match ps with | [.d (.int .i64 p1), .d (.int .i64 p2), .d (.int .i64 p3), .d (.sl 3 p4), .d (.int .i64 p5), .d (.sl 82 p6)] => fun K => Stream_Cards_L4 g n p1 p2 p3 ⟨p4, p5⟩ p6 (fun z0 z1 => K (.exit 0) (mkSt 53 11 [(0, .ptr 0 0), (5, .own 82 1)] [(0, some (.box [.d (.sl 3 z0.f_L), .d (.int .i64 z0.f_at)])), (1, some (.row 82 z1))])) | _ => fun _ => none
noncomputable def code_7 : Code := (Tryz.f7.body).getD .skip
noncomputable def E_Stream_Cards (g : C_Stream_Cards) : Env A := mkE [(9, SS_Stream_Pick g.Stream_Pick), (24, SS_Stream_ACall g.Stream_ACall), (42, SS_Stream_Flip g.Stream_Flip), (43, SS_Stream_Some g.Stream_Some), (44, SS_Stream_Odd g.Stream_Odd), (45, SS_slices_SortStableFunc__Card_Q_CardOrder g.slices_SortStableFunc__Card_Q_CardOrder), (47, SS_slices_Compact__Card g.slices_Compact__Card)] [(7, [6]), (13, [2]), (18, [3]), (21, [4]), (26, [5]), (38, [7]), (46, [8]), (47, [9]), (52, [10])] [(4, ⟨[0, 5, 6, 8, 9], [(5, 82, 1)], [0], []⟩)] [(4, ⟨[0, 5], [], [0, 1], []⟩)] [(4, pieceOf sh_Stream_Cards_L4 (LP_Stream_Cards_L4 g g.N))] [] [] [] [(45, 0), (47, 0)] [0]
theorem ct_Stream_Cards [Fuel] : NatTab (E_Stream_Cards I_Stream_Cards).C := ct_of (P := Tryz.prog) (T := T) (.cons ok_Stream_Pick (.cons ok_Stream_ACall (.cons ok_Stream_Flip (.cons ok_Stream_Some (.cons ok_Stream_Odd (.cons ok_slices_SortStableFunc__Card_Q_CardOrder (.cons ok_slices_Compact__Card .nil))))))) (by kernel_rfl)
noncomputable def cb_Stream_Cards_L4 : Code := sub [1, 1, 1, 0, 1, 0, 0] code_7
theorem s_Stream_Cards_L4 (g : C_Stream_Cards) (n : Nat) : StepOk (E_Stream_Cards g) g.N cb_Stream_Cards_L4 sh_Stream_Cards_L4 (LP_Stream_Cards_L4 g) n := by intro ps; unfold LP_Stream_Cards_L4; split; exact .inr fun R K => (by kernel_rfl); exact .inl fun R K => rfl
theorem lf_Stream_Cards_L4 [Fuel] : LoopFine (E_Stream_Cards I_Stream_Cards) NN cb_Stream_Cards_L4 := fine_loop sh_Stream_Cards_L4 (LP_Stream_Cards_L4 I_Stream_Cards) (by kernel_rfl) ct_Stream_Cards (cuts0 (fun _ => rfl) (by kernel_rfl)) (fun ps R K => by unfold LP_Stream_Cards_L4; split <;> (try unfold Stream_Cards_L4) <;> rfl) (s_Stream_Cards_L4 I_Stream_Cards)
theorem sm_Stream_Cards (g : C_Stream_Cards) : Same (SS_Stream_Cards (@Stream_Cards_ g)) (abody (E_Stream_Cards g) Tryz.f7 code_7 11 [0] [.arr 82] g.N) := by intro args; unfold SS_Stream_Cards; split; exact .inr fun R k => (by kernel_rfl); exact .inl fun R k => rfl
theorem ok_Stream_Cards [Fuel] : Ok 7 (SS_Stream_Cards (@Stream_Cards _)) := okF_of std (.cons ok_Stream_Pick (.cons ok_Stream_ACall (.cons ok_Stream_Flip (.cons ok_Stream_Some (.cons ok_Stream_Odd (.cons ok_slices_SortStableFunc__Card_Q_CardOrder (.cons ok_slices_Compact__Card .nil))))))) ⟨rfl, rfl, by kernel_rfl, rfl, rfl⟩ (sm_Stream_Cards I_Stream_Cards) (cutsL (fun _ => rfl) (.cons lf_Stream_Cards_L4 .nil) (by kernel_rfl)) Tryz.func7 (by kernel_rfl) (by kernel_rfl)
abbrev T_strings_IndexByte : Type 1 := List UInt8 → Int → {R : Type} → (Int → Option R) → Option R
def strings_IndexByte [Fuel] : T_strings_IndexByte := @X_ixb
def SS_strings_IndexByte (g : T_strings_IndexByte) : Spec A := SSX_ixb g
theorem ok_strings_IndexByte [Fuel] : Ok 119 (SS_strings_IndexByte (@strings_IndexByte _)) := ⟨ssx_ixb_sound (ixb_sound (Any.strings_IndexByte Tryz.lays137)), ssx_ixb_nat, enters_of (fn := Tryz.f119) Tryz.func119 (by kernel_rfl) (by kernel_rfl)⟩
abbrev T_strings_Trim : Type 1 := List UInt8 → List UInt8 → {R : Type} → (List UInt8 → Option R) → Option R
def strings_Trim [Fuel] : T_strings_Trim := @X_trim
def SS_strings_Trim (g : T_strings_Trim) : Spec A := SSX_trim g
theorem ok_strings_Trim [Fuel] : Ok 120 (SS_strings_Trim (@strings_Trim _)) := ⟨ssx_trim_sound (trim_sound rfl (fun s cs w h1 h2 h3 => Any.strings_Trim_laid Tryz.lays160 (by kernel_rfl) s cs w h1 h2 h3)), ssx_trim_nat, enters_of (fn := Tryz.f120) Tryz.func120 (by kernel_rfl) (by kernel_rfl)⟩
abbrev T_kit_IsKey : Type 1 := List UInt8 → {R : Type} → (Bool → Option R) → Option R
structure C_kit_IsKey where
  N : Nat
  strings_IndexByte : T_strings_IndexByte
  strings_Trim : T_strings_Trim
def kit_IsKey_ (g : C_kit_IsKey) (a1 : List UInt8) {R : Type} (k0 : Bool → Option R) : Option R :=
  (bif (!(a1 == [])) then (bif (decide ((a1.length : Int) ≤ 40)) then (at_ a1 0 fun x2 => (g.strings_IndexByte [97, 98, 99, 100, 101, 102, 103, 104, 105, 106, 107, 108, 109, 110, 111, 112, 113, 114, 115, 116, 117, 118, 119, 120, 121, 122] (x2.toNat : Int) (fun r3 => (bif (decide (r3 ≥ 0)) then (g.strings_Trim a1 [97, 98, 99, 100, 101, 102, 103, 104, 105, 106, 107, 108, 109, 110, 111, 112, 113, 114, 115, 116, 117, 118, 119, 120, 121, 122, 48, 49, 50, 51, 52, 53, 54, 55, 56, 57, 45, 95] (fun r4 => k0 (r4 == []))) else k0 false)))) else k0 false) else k0 false)
noncomputable def I_kit_IsKey [Fuel] : C_kit_IsKey := ⟨NN, @strings_IndexByte _, @strings_Trim _⟩
noncomputable def kit_IsKey [Fuel] : T_kit_IsKey := @kit_IsKey_ I_kit_IsKey
def SS_kit_IsKey (g : T_kit_IsKey) : Spec A := fun args => match args with | [.d (.str a1)] => fun k => g a1 (fun z0 => k (.d (.bool z0)) [.undef]) | _ => fun _ => none
noncomputable def code_79 : Code := (Tryz.f79.body).getD .skip
noncomputable def E_kit_IsKey (g : C_kit_IsKey) : Env A := mkE [(119, SS_strings_IndexByte g.strings_IndexByte), (120, SS_strings_Trim g.strings_Trim)] [] [] [] [] [] [] [] [] []
theorem sm_kit_IsKey (g : C_kit_IsKey) : Same (SS_kit_IsKey (@kit_IsKey_ g)) (abody (E_kit_IsKey g) Tryz.f79 code_79 0 [] [.asis] g.N) := by intro args; unfold SS_kit_IsKey; split; exact .inr fun R k => (by kernel_rfl); exact .inl fun R k => rfl
theorem ok_kit_IsKey [Fuel] : Ok 79 (SS_kit_IsKey (@kit_IsKey _)) := okF_of std (.cons ok_strings_IndexByte (.cons ok_strings_Trim .nil)) ⟨rfl, rfl, by kernel_rfl, rfl, rfl⟩ (sm_kit_IsKey I_kit_IsKey) (cuts0 (fun _ => rfl) (by kernel_rfl)) Tryz.func79 (by kernel_rfl) (by kernel_rfl)
abbrev T_kit_IsName : Type 1 := List UInt8 → {R : Type} → (Bool → Option R) → Option R
structure C_kit_IsName where
  N : Nat
  kit_IsKey : T_kit_IsKey
def kit_IsName_ (g : C_kit_IsName) (a1 : List UInt8) {R : Type} (k0 : Bool → Option R) : Option R :=
  (bif (a1 == []) then k0 true else (g.kit_IsKey a1 (fun r2 => k0 r2)))
noncomputable def I_kit_IsName [Fuel] : C_kit_IsName := ⟨NN, @kit_IsKey _⟩
noncomputable def kit_IsName [Fuel] : T_kit_IsName := @kit_IsName_ I_kit_IsName
def SS_kit_IsName (g : T_kit_IsName) : Spec A := fun args => match args with | [.d (.str a1)] => fun k => g a1 (fun z0 => k (.d (.bool z0)) [.undef]) | _ => fun _ => none
noncomputable def code_105 : Code := (Tryz.f105.body).getD .skip
noncomputable def E_kit_IsName (g : C_kit_IsName) : Env A := mkE [(79, SS_kit_IsKey g.kit_IsKey)] [] [] [] [] [] [] [] [] []
theorem sm_kit_IsName (g : C_kit_IsName) : Same (SS_kit_IsName (@kit_IsName_ g)) (abody (E_kit_IsName g) Tryz.f105 code_105 0 [] [.asis] g.N) := by intro args; unfold SS_kit_IsName; split; exact .inr fun R k => (by kernel_rfl); exact .inl fun R k => rfl
theorem ok_kit_IsName [Fuel] : Ok 105 (SS_kit_IsName (@kit_IsName _)) := okF_of std (.cons ok_kit_IsKey .nil) ⟨rfl, rfl, by kernel_rfl, rfl, rfl⟩ (sm_kit_IsName I_kit_IsName) (cuts0 (fun _ => rfl) (by kernel_rfl)) Tryz.func105 (by kernel_rfl) (by kernel_rfl)
abbrev T_kit_Outside : Type 1 := Int → Int → Int → {R : Type} → (Bool → Option R) → Option R
def kit_Outside_ (g : Nat) (a1 a2 a3 : Int) {R : Type} (k0 : Bool → Option R) : Option R :=
  (bif (decide (a1 < a2)) then k0 true else k0 (decide (a1 > a3)))
noncomputable def kit_Outside [Fuel] : T_kit_Outside := @kit_Outside_ NN
def SS_kit_Outside (g : T_kit_Outside) : Spec A := fun args => match args with | [.d (.int .i64 a1), .d (.int .i64 a2), .d (.int .i64 a3)] => fun k => g a1 a2 a3 (fun z0 => k (.d (.bool z0)) [.undef, .undef, .undef]) | _ => fun _ => none
noncomputable def code_91 : Code := (Tryz.f91.body).getD .skip
noncomputable def E_kit_Outside (g : Nat) : Env A := mkE [] [] [] [] [] [] [] [] [] []
theorem sm_kit_Outside (g : Nat) : Same (SS_kit_Outside (@kit_Outside_ g)) (abody (E_kit_Outside g) Tryz.f91 code_91 0 [] [.asis] g) := by intro args; unfold SS_kit_Outside; split; exact .inr fun R k => (by kernel_rfl); exact .inl fun R k => rfl
theorem ok_kit_Outside [Fuel] : Ok 91 (SS_kit_Outside (@kit_Outside _)) := okF_of std .nil ⟨rfl, rfl, by kernel_rfl, rfl, rfl⟩ (sm_kit_Outside NN) (cuts0 (fun _ => rfl) (by kernel_rfl)) Tryz.func91 (by kernel_rfl) (by kernel_rfl)
abbrev T_club_awardFault : Type 1 := List G_Award → Int → {R : Type} → (Int → Option R) → Option R
structure C_club_awardFault where
  N : Nat
  kit_IsKey : T_kit_IsKey
  kit_Outside : T_kit_Outside
  kit_IsName : T_kit_IsName
def club_awardFault_ (g : C_club_awardFault) (a1 : List G_Award) (a2 : Int) {R : Type} (k0 : Int → Option R) : Option R :=
  (get_ a1 a2 fun x3 => (g.kit_IsKey x3.f_Key (fun r4 => (bif (!r4) then k0 5 else (g.kit_IsName x3.f_Band (fun r5 => (bif (!r5) then k0 5 else (g.kit_Outside x3.f_Count 1 4 (fun r6 => (bif r6 then k0 4 else (g.kit_Outside x3.f_Need 1 3000 (fun r7 => (bif r7 then k0 1 else (bif (decide (a2 > 0)) then (get_ a1 (w64 (a2 - 1)) fun x8 => (bif (Op.bytesLess x3.f_Key x8.f_Key || x3.f_Key == x8.f_Key) then k0 7 else k0 0)) else k0 0))))))))))))))
noncomputable def I_club_awardFault [Fuel] : C_club_awardFault := ⟨NN, @kit_IsKey _, @kit_Outside _, @kit_IsName _⟩
noncomputable def club_awardFault [Fuel] : T_club_awardFault := @club_awardFault_ I_club_awardFault
def SS_club_awardFault (g : T_club_awardFault) : Spec A := fun args => match args with | [.d (.sl 33 a1), .d (.int .i64 a2)] => fun k => g a1 a2 (fun z0 => k (.d (.int .i64 z0)) [.undef, .undef]) | _ => fun _ => none
noncomputable def code_59 : Code := (Tryz.f59.body).getD .skip
noncomputable def E_club_awardFault (g : C_club_awardFault) : Env A := mkE [(79, SS_kit_IsKey g.kit_IsKey), (91, SS_kit_Outside g.kit_Outside), (105, SS_kit_IsName g.kit_IsName)] [(5, [0])] [] [] [] [] [] [] [] []
theorem sm_club_awardFault (g : C_club_awardFault) : Same (SS_club_awardFault (@club_awardFault_ g)) (abody (E_club_awardFault g) Tryz.f59 code_59 1 [] [.asis] g.N) := by intro args; unfold SS_club_awardFault; split; exact .inr fun R k => (by kernel_rfl); exact .inl fun R k => rfl
theorem ok_club_awardFault [Fuel] : Ok 59 (SS_club_awardFault (@club_awardFault _)) := okF_of std (.cons ok_kit_IsKey (.cons ok_kit_Outside (.cons ok_kit_IsName .nil))) ⟨rfl, rfl, by kernel_rfl, rfl, rfl⟩ (sm_club_awardFault I_club_awardFault) (cuts0 (fun _ => rfl) (by kernel_rfl)) Tryz.func59 (by kernel_rfl) (by kernel_rfl)
abbrev T_club_CheckAwards : Type 1 := List G_Award → {R : Type} → (Int → Option R) → Option R
structure C_club_CheckAwards where
  N : Nat
  club_awardFault : T_club_awardFault
def club_CheckAwards_L4 (g : C_club_CheckAwards) : Nat → List G_Award → Int → Int → {R : Type} → (Int → Option R) → Option R → Option R
  | 0, _, _, _, _, _, _ => none
  | n + 1, v2, v3, v4, _, e0, e1 => (bif (decide (v4 < v3)) then (g.club_awardFault v2 v4 (fun r6 => (bif (r6 != 0) then e0 r6 else club_CheckAwards_L4 g n v2 v3 (w64 (v4 + 1)) e0 e1))) else e1)
def club_CheckAwards_ (g : C_club_CheckAwards) (a1 : List G_Award) {R : Type} (k0 : Int → Option R) : Option R :=
  (bif (decide ((a1.length : Int) > 50)) then k0 2 else (club_CheckAwards_L4 g g.N a1 (a1.length : Int) 0 (fun e7 => k0 e7) (k0 0)))
noncomputable def I_club_CheckAwards [Fuel] : C_club_CheckAwards := ⟨NN, @club_awardFault _⟩
noncomputable def club_CheckAwards [Fuel] : T_club_CheckAwards := @club_CheckAwards_ I_club_CheckAwards
def SS_club_CheckAwards (g : T_club_CheckAwards) : Spec A := fun args => match args with | [.d (.sl 33 a1)] => fun k => g a1 (fun z0 => k (.d (.int .i64 z0)) [.undef]) | _ => fun _ => none
def sh_club_CheckAwards_L4 : SSt := mkSh 20 0 [(0, .sl 33), (9, .int .i64), (10, .int .i64)] []
def LP_club_CheckAwards_L4 (g : C_club_CheckAwards) (n : Nat) : LPT A := fun ps => match ps with | [.d (.sl 33 p1), .d (.int .i64 p2), .d (.int .i64 p3)] => fun K => club_CheckAwards_L4 g n p1 p2 p3 (fun z0 => K .ret (mkSt 20 0 [(2, .d (.int .i64 z0))] [])) (K (.exit 0) (mkSt 20 0 [] [])) | _ => fun _ => none
noncomputable def code_19 : Code := (Tryz.f19.body).getD .skip
noncomputable def E_club_CheckAwards (g : C_club_CheckAwards) : Env A := mkE [(59, SS_club_awardFault g.club_awardFault)] [] [(4, ⟨[0, 9, 10], [], [], []⟩)] [(4, ⟨[2], [], [], []⟩)] [(4, pieceOf sh_club_CheckAwards_L4 (LP_club_CheckAwards_L4 g g.N))] [] [] [] [] []
theorem ct_club_CheckAwards [Fuel] : NatTab (E_club_CheckAwards I_club_CheckAwards).C := ct_of (P := Tryz.prog) (T := T) (.cons ok_club_awardFault .nil) (by kernel_rfl)
noncomputable def cb_club_CheckAwards_L4 : Code := sub [1, 1, 0, 1, 0, 0] code_19
theorem s_club_CheckAwards_L4 (g : C_club_CheckAwards) (n : Nat) : StepOk (E_club_CheckAwards g) g.N cb_club_CheckAwards_L4 sh_club_CheckAwards_L4 (LP_club_CheckAwards_L4 g) n := by intro ps; unfold LP_club_CheckAwards_L4; split; exact .inr fun R K => (by kernel_rfl); exact .inl fun R K => rfl
theorem lf_club_CheckAwards_L4 [Fuel] : LoopFine (E_club_CheckAwards I_club_CheckAwards) NN cb_club_CheckAwards_L4 := fine_loop sh_club_CheckAwards_L4 (LP_club_CheckAwards_L4 I_club_CheckAwards) (by kernel_rfl) ct_club_CheckAwards (cuts0 (fun _ => rfl) (by kernel_rfl)) (fun ps R K => by unfold LP_club_CheckAwards_L4; split <;> (try unfold club_CheckAwards_L4) <;> rfl) (s_club_CheckAwards_L4 I_club_CheckAwards)
theorem sm_club_CheckAwards (g : C_club_CheckAwards) : Same (SS_club_CheckAwards (@club_CheckAwards_ g)) (abody (E_club_CheckAwards g) Tryz.f19 code_19 0 [] [.asis] g.N) := by intro args; unfold SS_club_CheckAwards; split; exact .inr fun R k => (by kernel_rfl); exact .inl fun R k => rfl
theorem ok_club_CheckAwards [Fuel] : Ok 19 (SS_club_CheckAwards (@club_CheckAwards _)) := okF_of std (.cons ok_club_awardFault .nil) ⟨rfl, rfl, by kernel_rfl, rfl, rfl⟩ (sm_club_CheckAwards I_club_CheckAwards) (cutsL (fun _ => rfl) (.cons lf_club_CheckAwards_L4 .nil) (by kernel_rfl)) Tryz.func19 (by kernel_rfl) (by kernel_rfl)
abbrev T_kit_IsMoment : Type 1 := Int → {R : Type} → (Bool → Option R) → Option R
structure C_kit_IsMoment where
  N : Nat
  kit_Outside : T_kit_Outside
def kit_IsMoment_ (g : C_kit_IsMoment) (a1 : Int) {R : Type} (k0 : Bool → Option R) : Option R :=
  (g.kit_Outside a1 0 345686399999 (fun r2 => k0 (!r2)))
noncomputable def I_kit_IsMoment [Fuel] : C_kit_IsMoment := ⟨NN, @kit_Outside _⟩
noncomputable def kit_IsMoment [Fuel] : T_kit_IsMoment := @kit_IsMoment_ I_kit_IsMoment
def SS_kit_IsMoment (g : T_kit_IsMoment) : Spec A := fun args => match args with | [.d (.int .i64 a1)] => fun k => g a1 (fun z0 => k (.d (.bool z0)) [.undef]) | _ => fun _ => none
noncomputable def code_96 : Code := (Tryz.f96.body).getD .skip
noncomputable def E_kit_IsMoment (g : C_kit_IsMoment) : Env A := mkE [(91, SS_kit_Outside g.kit_Outside)] [] [] [] [] [] [] [] [] []
theorem sm_kit_IsMoment (g : C_kit_IsMoment) : Same (SS_kit_IsMoment (@kit_IsMoment_ g)) (abody (E_kit_IsMoment g) Tryz.f96 code_96 0 [] [.asis] g.N) := by intro args; unfold SS_kit_IsMoment; split; exact .inr fun R k => (by kernel_rfl); exact .inl fun R k => rfl
theorem ok_kit_IsMoment [Fuel] : Ok 96 (SS_kit_IsMoment (@kit_IsMoment _)) := okF_of std (.cons ok_kit_Outside .nil) ⟨rfl, rfl, by kernel_rfl, rfl, rfl⟩ (sm_kit_IsMoment I_kit_IsMoment) (cuts0 (fun _ => rfl) (by kernel_rfl)) Tryz.func96 (by kernel_rfl) (by kernel_rfl)
abbrev T_kit_IsMode : Type 1 := Int → {R : Type} → (Bool → Option R) → Option R
structure C_kit_IsMode where
  N : Nat
  kit_Outside : T_kit_Outside
def kit_IsMode_ (g : C_kit_IsMode) (a1 : Int) {R : Type} (k0 : Bool → Option R) : Option R :=
  (g.kit_Outside a1 1 3 (fun r2 => k0 (!r2)))
noncomputable def I_kit_IsMode [Fuel] : C_kit_IsMode := ⟨NN, @kit_Outside _⟩
noncomputable def kit_IsMode [Fuel] : T_kit_IsMode := @kit_IsMode_ I_kit_IsMode
def SS_kit_IsMode (g : T_kit_IsMode) : Spec A := fun args => match args with | [.d (.int .i64 a1)] => fun k => g a1 (fun z0 => k (.d (.bool z0)) [.undef]) | _ => fun _ => none
noncomputable def code_100 : Code := (Tryz.f100.body).getD .skip
noncomputable def E_kit_IsMode (g : C_kit_IsMode) : Env A := mkE [(91, SS_kit_Outside g.kit_Outside)] [] [] [] [] [] [] [] [] []
theorem sm_kit_IsMode (g : C_kit_IsMode) : Same (SS_kit_IsMode (@kit_IsMode_ g)) (abody (E_kit_IsMode g) Tryz.f100 code_100 0 [] [.asis] g.N) := by intro args; unfold SS_kit_IsMode; split; exact .inr fun R k => (by kernel_rfl); exact .inl fun R k => rfl
theorem ok_kit_IsMode [Fuel] : Ok 100 (SS_kit_IsMode (@kit_IsMode _)) := okF_of std (.cons ok_kit_Outside .nil) ⟨rfl, rfl, by kernel_rfl, rfl, rfl⟩ (sm_kit_IsMode I_kit_IsMode) (cuts0 (fun _ => rfl) (by kernel_rfl)) Tryz.func100 (by kernel_rfl) (by kernel_rfl)
abbrev T_call_isLetter : Type 1 := Int → {R : Type} → (Bool → Option R) → Option R
def call_isLetter_ (g : Nat) (a1 : Int) {R : Type} (k0 : Bool → Option R) : Option R :=
  (bif (decide (a1 ≥ 97)) then k0 (decide (a1 ≤ 122)) else k0 false)
noncomputable def call_isLetter [Fuel] : T_call_isLetter := @call_isLetter_ NN
def SS_call_isLetter (g : T_call_isLetter) : Spec A := fun args => match args with | [.d (.int .u8 a1)] => fun k => g a1 (fun z0 => k (.d (.bool z0)) [.undef]) | _ => fun _ => none
noncomputable def code_229 : Code := (Tryz.f229.body).getD .skip
noncomputable def E_call_isLetter (g : Nat) : Env A := mkE [] [] [] [] [] [] [] [] [] []
theorem sm_call_isLetter (g : Nat) : Same (SS_call_isLetter (@call_isLetter_ g)) (abody (E_call_isLetter g) Tryz.f229 code_229 0 [] [.asis] g) := by intro args; unfold SS_call_isLetter; split; exact .inr fun R k => (by kernel_rfl); exact .inl fun R k => rfl
theorem ok_call_isLetter [Fuel] : Ok 229 (SS_call_isLetter (@call_isLetter _)) := okF_of std .nil ⟨rfl, rfl, by kernel_rfl, rfl, rfl⟩ (sm_call_isLetter NN) (cuts0 (fun _ => rfl) (by kernel_rfl)) Tryz.func229 (by kernel_rfl) (by kernel_rfl)
abbrev T_call_isDigit : Type 1 := Int → {R : Type} → (Bool → Option R) → Option R
def call_isDigit_ (g : Nat) (a1 : Int) {R : Type} (k0 : Bool → Option R) : Option R :=
  (bif (decide (a1 ≥ 48)) then k0 (decide (a1 ≤ 57)) else k0 false)
noncomputable def call_isDigit [Fuel] : T_call_isDigit := @call_isDigit_ NN
def SS_call_isDigit (g : T_call_isDigit) : Spec A := fun args => match args with | [.d (.int .u8 a1)] => fun k => g a1 (fun z0 => k (.d (.bool z0)) [.undef]) | _ => fun _ => none
noncomputable def code_191 : Code := (Tryz.f191.body).getD .skip
noncomputable def E_call_isDigit (g : Nat) : Env A := mkE [] [] [] [] [] [] [] [] [] []
theorem sm_call_isDigit (g : Nat) : Same (SS_call_isDigit (@call_isDigit_ g)) (abody (E_call_isDigit g) Tryz.f191 code_191 0 [] [.asis] g) := by intro args; unfold SS_call_isDigit; split; exact .inr fun R k => (by kernel_rfl); exact .inl fun R k => rfl
theorem ok_call_isDigit [Fuel] : Ok 191 (SS_call_isDigit (@call_isDigit _)) := okF_of std .nil ⟨rfl, rfl, by kernel_rfl, rfl, rfl⟩ (sm_call_isDigit NN) (cuts0 (fun _ => rfl) (by kernel_rfl)) Tryz.func191 (by kernel_rfl) (by kernel_rfl)
abbrev T_call_isPlain : Type 1 := List UInt8 → {R : Type} → (Int → Bool → Option R) → Option R
structure C_call_isPlain where
  N : Nat
  call_isDigit : T_call_isDigit
  call_isLetter : T_call_isLetter
def call_isPlain_L2 (g : C_call_isPlain) : Nat → List UInt8 → Int → Int → Int → {R : Type} → (Int → Bool → Option R) → (Int → Option R) → Option R
  | 0, _, _, _, _, _, _, _ => none
  | n + 1, v2, v3, v4, v5, _, e0, e1 => (bif (decide (v5 < v4)) then (get_ v2 v5 fun x10 => (g.call_isLetter (x10.toNat : Int) (fun r11 => (bif r11 then call_isPlain_L2 g n v2 (w64 (v3 + 1)) v4 (w64 (v5 + 1)) e0 e1 else (get_ v2 v5 fun x12 => (g.call_isDigit (x12.toNat : Int) (fun r13 => (bif (!r13) then e0 0 false else call_isPlain_L2 g n v2 v3 v4 (w64 (v5 + 1)) e0 e1)))))))) else e1 v3)
def call_isPlain_ (g : C_call_isPlain) (a1 : List UInt8) {R : Type} (k0 : Int → Bool → Option R) : Option R :=
  (call_isPlain_L2 g g.N a1 0 (a1.length : Int) 0 (fun e14 e15 => k0 e14 e15) (fun e16 => k0 e16 true))
noncomputable def I_call_isPlain [Fuel] : C_call_isPlain := ⟨NN, @call_isDigit _, @call_isLetter _⟩
noncomputable def call_isPlain [Fuel] : T_call_isPlain := @call_isPlain_ I_call_isPlain
def SS_call_isPlain (g : T_call_isPlain) : Spec A := fun args => match args with | [.d (.str a1)] => fun k => g a1 (fun z0 z1 => k (.tup [.d (.int .i64 z0), .d (.bool z1)]) [.undef]) | _ => fun _ => none
def sh_call_isPlain_L2 : SSt := mkSh 25 0 [(0, .str), (2, .int .i64), (6, .int .i64), (7, .int .i64)] []
def LP_call_isPlain_L2 (g : C_call_isPlain) (n : Nat) : LPT A := fun ps => match ps with | [.d (.str p1), .d (.int .i64 p2), .d (.int .i64 p3), .d (.int .i64 p4)] => fun K => call_isPlain_L2 g n p1 p2 p3 p4 (fun z0 z1 => K .ret (mkSt 25 0 [(2, .d (.int .i64 z0)), (3, .d (.bool z1))] [])) (fun z0 => K (.exit 0) (mkSt 25 0 [(2, .d (.int .i64 z0))] [])) | _ => fun _ => none
noncomputable def code_190 : Code := (Tryz.f190.body).getD .skip
noncomputable def E_call_isPlain (g : C_call_isPlain) : Env A := mkE [(191, SS_call_isDigit g.call_isDigit), (229, SS_call_isLetter g.call_isLetter)] [] [(2, ⟨[0, 2, 6, 7], [], [], []⟩)] [(2, ⟨[2, 3], [], [], []⟩)] [(2, pieceOf sh_call_isPlain_L2 (LP_call_isPlain_L2 g g.N))] [] [] [] [] []
theorem ct_call_isPlain [Fuel] : NatTab (E_call_isPlain I_call_isPlain).C := ct_of (P := Tryz.prog) (T := T) (.cons ok_call_isDigit (.cons ok_call_isLetter .nil)) (by kernel_rfl)
noncomputable def cb_call_isPlain_L2 : Code := sub [1, 0, 1, 0, 0] code_190
theorem s_call_isPlain_L2 (g : C_call_isPlain) (n : Nat) : StepOk (E_call_isPlain g) g.N cb_call_isPlain_L2 sh_call_isPlain_L2 (LP_call_isPlain_L2 g) n := by intro ps; unfold LP_call_isPlain_L2; split; exact .inr fun R K => (by kernel_rfl); exact .inl fun R K => rfl
theorem lf_call_isPlain_L2 [Fuel] : LoopFine (E_call_isPlain I_call_isPlain) NN cb_call_isPlain_L2 := fine_loop sh_call_isPlain_L2 (LP_call_isPlain_L2 I_call_isPlain) (by kernel_rfl) ct_call_isPlain (cuts0 (fun _ => rfl) (by kernel_rfl)) (fun ps R K => by unfold LP_call_isPlain_L2; split <;> (try unfold call_isPlain_L2) <;> rfl) (s_call_isPlain_L2 I_call_isPlain)
theorem sm_call_isPlain (g : C_call_isPlain) : Same (SS_call_isPlain (@call_isPlain_ g)) (abody (E_call_isPlain g) Tryz.f190 code_190 0 [] [.asis, .asis] g.N) := by intro args; unfold SS_call_isPlain; split; exact .inr fun R k => (by kernel_rfl); exact .inl fun R k => rfl
theorem ok_call_isPlain [Fuel] : Ok 190 (SS_call_isPlain (@call_isPlain _)) := okF_of std (.cons ok_call_isDigit (.cons ok_call_isLetter .nil)) ⟨rfl, rfl, by kernel_rfl, rfl, rfl⟩ (sm_call_isPlain I_call_isPlain) (cutsL (fun _ => rfl) (.cons lf_call_isPlain_L2 .nil) (by kernel_rfl)) Tryz.func190 (by kernel_rfl) (by kernel_rfl)
abbrev T_strings_IndexRune : Type 1 := List UInt8 → Int → {R : Type} → (Int → Option R) → Option R
def strings_IndexRune [Fuel] : T_strings_IndexRune := @X_ixr
def SS_strings_IndexRune (g : T_strings_IndexRune) : Spec A := SSX_ixr g
theorem ok_strings_IndexRune [Fuel] : Ok 218 (SS_strings_IndexRune (@strings_IndexRune _)) := ⟨ssx_ixr_sound (ixr_sound (fun s r w h0 h1 => Any.strings_IndexRune_ascii Tryz.lays152 s r w h0 h1)), ssx_ixr_nat, enters_of (fn := Tryz.f218) Tryz.func218 (by kernel_rfl) (by kernel_rfl)⟩
abbrev T_strings_shouldUseASCIISet : Type 1 := Int → {R : Type} → (Bool → Option R) → Option R
def strings_shouldUseASCIISet_ (g : Nat) (a1 : Int) {R : Type} (k0 : Bool → Option R) : Option R :=
  k0 (decide (a1 > 8))
noncomputable def strings_shouldUseASCIISet [Fuel] : T_strings_shouldUseASCIISet := @strings_shouldUseASCIISet_ NN
def SS_strings_shouldUseASCIISet (g : T_strings_shouldUseASCIISet) : Spec A := fun args => match args with | [.d (.int .i64 a1)] => fun k => g a1 (fun z0 => k (.d (.bool z0)) [.undef]) | _ => fun _ => none
noncomputable def code_219 : Code := (Tryz.f219.body).getD .skip
noncomputable def E_strings_shouldUseASCIISet (g : Nat) : Env A := mkE [] [] [] [] [] [] [] [] [] []
theorem sm_strings_shouldUseASCIISet (g : Nat) : Same (SS_strings_shouldUseASCIISet (@strings_shouldUseASCIISet_ g)) (abody (E_strings_shouldUseASCIISet g) Tryz.f219 code_219 0 [] [.asis] g) := by intro args; unfold SS_strings_shouldUseASCIISet; split; exact .inr fun R k => (by kernel_rfl); exact .inl fun R k => rfl
theorem ok_strings_shouldUseASCIISet [Fuel] : Ok 219 (SS_strings_shouldUseASCIISet (@strings_shouldUseASCIISet _)) := okF_of std .nil ⟨rfl, rfl, by kernel_rfl, rfl, rfl⟩ (sm_strings_shouldUseASCIISet NN) (cuts0 (fun _ => rfl) (by kernel_rfl)) Tryz.func219 (by kernel_rfl) (by kernel_rfl)
abbrev T_strings_makeASCIISet : Type 1 := List UInt8 → {R : Type} → Option R
def strings_makeASCIISet_ (g : Nat) (a1 : List UInt8) {R : Type}  : Option R :=
  none
noncomputable def strings_makeASCIISet [Fuel] : T_strings_makeASCIISet := @strings_makeASCIISet_ NN
def SS_strings_makeASCIISet (g : T_strings_makeASCIISet) : Spec A := fun args => match args with | [.d (.str a1)] => fun k => g a1 | _ => fun _ => none
noncomputable def code_156 : Code := (Tryz.f156.body).getD .skip
noncomputable def E_strings_makeASCIISet (g : Nat) : Env A := mkE [] [] [] [] [] [] [] [] [] []
noncomputable def cb_strings_makeASCIISet_L2 : Code := sub [1, 0, 1, 0, 0] code_156
theorem lf_strings_makeASCIISet_L2 [Fuel] : LoopFine (E_strings_makeASCIISet NN) NN cb_strings_makeASCIISet_L2 := no_loop (by kernel_rfl)
theorem sm_strings_makeASCIISet (g : Nat) : Same (SS_strings_makeASCIISet (@strings_makeASCIISet_ g)) (abody (E_strings_makeASCIISet g) Tryz.f156 code_156 0 [] [.asis, .asis] g) := by intro args; unfold SS_strings_makeASCIISet; split; exact .inr fun R k => (by kernel_rfl); exact .inl fun R k => rfl
theorem ok_strings_makeASCIISet [Fuel] : Ok 156 (SS_strings_makeASCIISet (@strings_makeASCIISet _)) := okF_of std .nil ⟨rfl, rfl, by kernel_rfl, rfl, rfl⟩ (sm_strings_makeASCIISet NN) (cutsL (fun _ => rfl) (.cons lf_strings_makeASCIISet_L2 .nil) (by kernel_rfl)) Tryz.func156 (by kernel_rfl) (by kernel_rfl)
abbrev T_utf8_RuneStart : Type 1 := Int → {R : Type} → Option R
def utf8_RuneStart_ (g : Nat) (a1 : Int) {R : Type}  : Option R :=
  none
noncomputable def utf8_RuneStart [Fuel] : T_utf8_RuneStart := @utf8_RuneStart_ NN
def SS_utf8_RuneStart (g : T_utf8_RuneStart) : Spec A := fun args => match args with | [.d (.int .u8 a1)] => fun k => g a1 | _ => fun _ => none
noncomputable def code_234 : Code := (Tryz.f234.body).getD .skip
noncomputable def E_utf8_RuneStart (g : Nat) : Env A := mkE [] [] [] [] [] [] [] [] [] []
theorem sm_utf8_RuneStart (g : Nat) : Same (SS_utf8_RuneStart (@utf8_RuneStart_ g)) (abody (E_utf8_RuneStart g) Tryz.f234 code_234 0 [] [.asis] g) := by intro args; unfold SS_utf8_RuneStart; split; exact .inr fun R k => (by kernel_rfl); exact .inl fun R k => rfl
theorem ok_utf8_RuneStart [Fuel] : Ok 234 (SS_utf8_RuneStart (@utf8_RuneStart _)) := okF_of std .nil ⟨rfl, rfl, by kernel_rfl, rfl, rfl⟩ (sm_utf8_RuneStart NN) (cuts0 (fun _ => rfl) (by kernel_rfl)) Tryz.func234 (by kernel_rfl) (by kernel_rfl)
abbrev T_utf8_decodeRuneInStringSlow : Type 1 := List UInt8 → {R : Type} → (Int → Int → Option R) → Option R
def utf8_decodeRuneInStringSlow_ (g : Nat) (a1 : List UInt8) {R : Type} (k0 : Int → Int → Option R) : Option R :=
  (bif (decide ((a1.length : Int) < 1)) then k0 65533 0 else (at_ a1 0 fun x2 => none))
noncomputable def utf8_decodeRuneInStringSlow [Fuel] : T_utf8_decodeRuneInStringSlow := @utf8_decodeRuneInStringSlow_ NN
def SS_utf8_decodeRuneInStringSlow (g : T_utf8_decodeRuneInStringSlow) : Spec A := fun args => match args with | [.d (.str a1)] => fun k => g a1 (fun z0 z1 => k (.tup [.d (.int .i32 z0), .d (.int .i64 z1)]) [.undef]) | _ => fun _ => none
noncomputable def code_233 : Code := (Tryz.f233.body).getD .skip
noncomputable def E_utf8_decodeRuneInStringSlow (g : Nat) : Env A := mkE [] [] [] [] [] [] [] [] [] []
theorem sm_utf8_decodeRuneInStringSlow (g : Nat) : Same (SS_utf8_decodeRuneInStringSlow (@utf8_decodeRuneInStringSlow_ g)) (abody (E_utf8_decodeRuneInStringSlow g) Tryz.f233 code_233 0 [] [.asis, .asis] g) := by intro args; unfold SS_utf8_decodeRuneInStringSlow; split; exact .inr fun R k => (by kernel_rfl); exact .inl fun R k => rfl
theorem ok_utf8_decodeRuneInStringSlow [Fuel] : Ok 233 (SS_utf8_decodeRuneInStringSlow (@utf8_decodeRuneInStringSlow _)) := okF_of std .nil ⟨rfl, rfl, by kernel_rfl, rfl, rfl⟩ (sm_utf8_decodeRuneInStringSlow NN) (cuts0 (fun _ => rfl) (by kernel_rfl)) Tryz.func233 (by kernel_rfl) (by kernel_rfl)
abbrev T_utf8_DecodeRuneInString : Type 1 := List UInt8 → {R : Type} → (Int → Int → Option R) → Option R
structure C_utf8_DecodeRuneInString where
  N : Nat
  utf8_decodeRuneInStringSlow : T_utf8_decodeRuneInStringSlow
def utf8_DecodeRuneInString_ (g : C_utf8_DecodeRuneInString) (a1 : List UInt8) {R : Type} (k0 : Int → Int → Option R) : Option R :=
  (bif (!(a1 == [])) then (at_ a1 0 fun x2 => (bif (decide ((x2.toNat : Int) < 128)) then (at_ a1 0 fun x3 => k0 (IntKind.i32.wrap (x3.toNat : Int)) 1) else (g.utf8_decodeRuneInStringSlow a1 (fun r4 r5 => k0 r4 r5)))) else (g.utf8_decodeRuneInStringSlow a1 (fun r6 r7 => k0 r6 r7)))
noncomputable def I_utf8_DecodeRuneInString [Fuel] : C_utf8_DecodeRuneInString := ⟨NN, @utf8_decodeRuneInStringSlow _⟩
noncomputable def utf8_DecodeRuneInString [Fuel] : T_utf8_DecodeRuneInString := @utf8_DecodeRuneInString_ I_utf8_DecodeRuneInString
def SS_utf8_DecodeRuneInString (g : T_utf8_DecodeRuneInString) : Spec A := fun args => match args with | [.d (.str a1)] => fun k => g a1 (fun z0 z1 => k (.tup [.d (.int .i32 z0), .d (.int .i64 z1)]) [.undef]) | _ => fun _ => none
noncomputable def code_203 : Code := (Tryz.f203.body).getD .skip
noncomputable def E_utf8_DecodeRuneInString (g : C_utf8_DecodeRuneInString) : Env A := mkE [(233, SS_utf8_decodeRuneInStringSlow g.utf8_decodeRuneInStringSlow)] [] [] [] [] [] [] [] [] []
theorem sm_utf8_DecodeRuneInString (g : C_utf8_DecodeRuneInString) : Same (SS_utf8_DecodeRuneInString (@utf8_DecodeRuneInString_ g)) (abody (E_utf8_DecodeRuneInString g) Tryz.f203 code_203 0 [] [.asis, .asis] g.N) := by intro args; unfold SS_utf8_DecodeRuneInString; split; exact .inr fun R k => (by kernel_rfl); exact .inl fun R k => rfl
theorem ok_utf8_DecodeRuneInString [Fuel] : Ok 203 (SS_utf8_DecodeRuneInString (@utf8_DecodeRuneInString _)) := okF_of std (.cons ok_utf8_decodeRuneInStringSlow .nil) ⟨rfl, rfl, by kernel_rfl, rfl, rfl⟩ (sm_utf8_DecodeRuneInString I_utf8_DecodeRuneInString) (cuts0 (fun _ => rfl) (by kernel_rfl)) Tryz.func203 (by kernel_rfl) (by kernel_rfl)
end Go.Am
