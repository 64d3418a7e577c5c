/- The plain law, in Lean alone: R3. No condition: lemmas for the claim. -/
import Derived.Test.YtomkgnajoccdbaaGreatDoorPlR1
import Derived.Test.YtomkgnajoccdbaaGreatDoorPlS1
set_option linter.unusedVariables false
set_option linter.unusedSectionVars false
set_option linter.unusedSimpArgs false
set_option maxRecDepth 100000
namespace Go.Am
open Go Go.Proofs
variable [Fuel]
def okSeg (cls : List UInt8) (mode at0 : Int) (s : G_Segment) : Bool := s.f_Class == cls && ((mode == 0 || s.f_Modes.any (fun y => mode == y)) && (decide (s.f_Time.f_From ≤ at0) && decide (at0 < s.f_Time.f_To)))
def permL (cls : List UInt8) (mode at0 : Int) : List G_Row → List G_Segment → List G_Row
  | out, [] => out
  | out, s :: ss => bif okSeg cls mode at0 s then permL cls mode at0 (out ++ [⟨s.f_Low, s.f_High⟩]) ss else permL cls mode at0 out ss
theorem permL_mem (cls : List UInt8) (mode at0 : Int) : ∀ (l : List G_Segment) (out : List G_Row) (r : G_Row), r ∈ permL cls mode at0 out l → r ∈ out ∨ ∃ s ∈ l, r = ⟨s.f_Low, s.f_High⟩
  | [], out, r, h => .inl h
  | s :: ss, out, r, h => by
    unfold permL at h
    cases hq : okSeg cls mode at0 s with
    | true =>
      rw [hq] at h
      rcases permL_mem cls mode at0 ss _ r h with h | ⟨x, hx, h⟩
      · rcases List.mem_append.1 h with h | h
        · exact .inl h
        · simp at h; exact .inr ⟨s, by simp, h⟩
      · exact .inr ⟨x, by simp [hx], h⟩
    | false =>
      rw [hq] at h
      rcases permL_mem cls mode at0 ss _ r h with h | ⟨x, hx, h⟩
      · exact .inl h
      · exact .inr ⟨x, by simp [hx], h⟩
theorem permL_len (cls : List UInt8) (mode at0 : Int) : ∀ (l : List G_Segment) (out : List G_Row), (permL cls mode at0 out l).length ≤ out.length + l.length
  | [], out => by simp [permL]
  | s :: ss, out => by
    unfold permL
    have h1 := permL_len cls mode at0 ss (out ++ [⟨s.f_Low, s.f_High⟩])
    have h2 := permL_len cls mode at0 ss out
    simp at h1
    cases okSeg cls mode at0 s <;> simp <;> omega
theorem slices_Contains__int_is {l : List Int} (hl : l.length ≤ 1000) (v : Int) (R : Type) (k : Bool → Option R) : slices_Contains__int l v k = k (l.any fun y => v == y) := by
  simp only [slices_Contains__int, slices_Contains__int_, I_slices_Contains__int, li_slices_Index__int]
  rw [sIndexV_is _ v l (by have := NN_ok; omega) (by have := NN_ok; omega), idxI_ge]
theorem kit_Has_is (w : G_Window) (at0 : Int) (R : Type) (k : Bool → Option R) : kit_Has w at0 k = k (decide (w.f_From ≤ at0) && decide (at0 < w.f_To)) := by
  simp only [kit_Has, kit_Has_]
  cases decide (w.f_From ≤ at0) <;> rfl
theorem band_permitted_loop (l : List G_Segment) (hm : ∀ s ∈ l, s.f_Modes.length ≤ 1000) (hl : l.length ≤ 1000) (cls : List UInt8) (mode at0 : Int) : ∀ (xs : List G_Segment) (n i : Nat) (out : List G_Row), l.drop i = xs → xs.length < n → out.length ≤ i →
    ∀ (R : Type) (e0 : List G_Row → Option R), band_permitted_L3 I_band_permitted n cls mode at0 l (l.length : Int) (i : Int) out e0 = e0 (permL cls mode at0 out xs)
  | _, 0, _, _, _, h, _, _, _ => by omega
  | [], n + 1, i, out, h, _, _, R, e0 => by rw [band_permitted_L3, ge_drop h]; rfl
  | s :: ss, n + 1, i, out, h, hn, ho, R, e0 => by
    have h' := drop_cons h
    have ih1 := band_permitted_loop l hm hl cls mode at0 ss n (i + 1) (out ++ [⟨s.f_Low, s.f_High⟩]) h'.2.2.1 (by simp at hn; omega) (by simp; omega) R e0
    have ih2 := band_permitted_loop l hm hl cls mode at0 ss n (i + 1) out h'.2.2.1 (by simp at hn; omega) (by omega) R e0
    rw [band_permitted_L3, lt_drop h]
    simp only [I_band_permitted] at ih1 ih2
    simp only [cond_true, get_drop h, I_band_permitted, kit_Has_is, slices_Contains__int_is (hm s (mem_drop h)), w64_succ (show i < 4611686018427387904 by omega), room1 out _ 16 (show out.length ≤ 1000000 by omega) (by omega), ih1, ih2, permL, okSeg]
    cases s.f_Class == cls <;> cases mode == 0 <;> cases (s.f_Modes.any fun y => mode == y) <;> cases decide (s.f_Time.f_From ≤ at0) <;> cases decide (at0 < s.f_Time.f_To) <;> rfl
theorem Q_permitted_loop (l : List G_Segment) (hm : ∀ s ∈ l, s.f_Modes.length ≤ 1000) (hl : l.length ≤ 1000) (cls : List UInt8) (mode at0 : Int) : ∀ (xs : List G_Segment) (n i : Nat) (out : List G_Row), l.drop i = xs → xs.length < n → out.length ≤ i →
    ∀ (R : Type) (e0 : List G_Row → Option R), Q_permitted_L3 I_Q_permitted n cls mode at0 l (l.length : Int) (i : Int) out e0 = e0 (permL cls mode at0 out xs)
  | _, 0, _, _, _, h, _, _, _ => by omega
  | [], n + 1, i, out, h, _, _, R, e0 => by rw [Q_permitted_L3, ge_drop h]; rfl
  | s :: ss, n + 1, i, out, h, hn, ho, R, e0 => by
    have h' := drop_cons h
    have ih1 := Q_permitted_loop l hm hl cls mode at0 ss n (i + 1) (out ++ [⟨s.f_Low, s.f_High⟩]) h'.2.2.1 (by simp at hn; omega) (by simp; omega) R e0
    have ih2 := Q_permitted_loop l hm hl cls mode at0 ss n (i + 1) out h'.2.2.1 (by simp at hn; omega) (by omega) R e0
    rw [Q_permitted_L3, lt_drop h]
    simp only [I_Q_permitted] at ih1 ih2
    simp only [cond_true, get_drop h, I_Q_permitted, slices_Contains__int_is (hm s (mem_drop h)), w64_succ (show i < 4611686018427387904 by omega), room1 out _ 16 (show out.length ≤ 1000000 by omega) (by omega), ih1, ih2, permL, okSeg]
    cases s.f_Class == cls <;> cases mode == 0 <;> cases (s.f_Modes.any fun y => mode == y) <;> cases decide (s.f_Time.f_From ≤ at0) <;> cases decide (at0 < s.f_Time.f_To) <;> rfl
theorem Q_permitted_is {l : List G_Segment} (hm : ∀ s ∈ l, s.f_Modes.length ≤ 1000) (hl : l.length ≤ 1000) (cls : List UInt8) (mode at0 : Int) (R : Type) (k : List G_Row → Option R) : Q_permitted l cls mode at0 k = k (permL cls mode at0 [] l) := by
  have h : ∀ e0 : List G_Row → Option R, Q_permitted_L3 I_Q_permitted I_Q_permitted.N cls mode at0 l (l.length : Int) 0 [] e0 = e0 (permL cls mode at0 [] l) := fun e0 =>
    Q_permitted_loop l hm hl cls mode at0 l NN 0 [] rfl (by have := NN_ok; omega) (by simp) R e0
  simp only [Q_permitted, Q_permitted_, h]
structure GoodG (s : G_Segment) : Prop where
  low : 0 ≤ s.f_Low
  lt : s.f_Low < s.f_High
  high : s.f_High ≤ 30000000000
theorem perm_rows {l : List G_Segment} (hg : ∀ s ∈ l, GoodG s) (cls : List UInt8) (mode at0 : Int) : BigR (permL cls mode at0 [] l) ∧ ∀ r ∈ permL cls mode at0 [] l, r.f_From < r.f_To := by
  constructor
  · intro r hr
    rcases permL_mem cls mode at0 l [] r hr with h | ⟨s, hs, rfl⟩
    · cases h
    · have := hg s hs; have := this.low; have := (hg s hs).lt; have := (hg s hs).high; simp only; omega
  · intro r hr
    rcases permL_mem cls mode at0 l [] r hr with h | ⟨s, hs, rfl⟩
    · cases h
    · exact (hg s hs).lt
theorem band_permitted_is {l : List G_Segment} (hm : ∀ s ∈ l, s.f_Modes.length ≤ 1000) (hg : ∀ s ∈ l, GoodG s) (hl : l.length ≤ 500) (cls : List UInt8) (mode at0 : Int) :
    (rowsL (permL cls mode at0 [] l) []).length ≤ l.length ∧ ∀ (R : Type) (k : List G_Row → Option R), band_permitted l cls mode at0 k = k (rowsL (permL cls mode at0 [] l) []) := by
  obtain ⟨b1, b2⟩ := perm_rows hg cls mode at0
  have hlen := permL_len cls mode at0 l []
  obtain ⟨J, j1, j2, j3, j4⟩ := band_joined_is b1 b2 (by simp at hlen; omega)
  obtain ⟨r1, r2⟩ := rows_can (permL cls mode at0 [] l) []
  have e : J = rowsL (permL cls mode at0 [] l) [] := can_one j1 r1 fun n => by rw [j2, r2]; simp [cov]
  have h : ∀ (R : Type) (e0 : List G_Row → Option R), band_permitted_L3 I_band_permitted I_band_permitted.N cls mode at0 l (l.length : Int) 0 [] e0 = e0 (permL cls mode at0 [] l) := fun R e0 =>
    band_permitted_loop l hm (by omega) cls mode at0 l NN 0 [] rfl (by have := NN_ok; omega) (by simp) R e0
  rw [← e]
  refine ⟨by simp at hlen; omega, fun R k => ?_⟩
  simp only [band_permitted, band_permitted_, h]
  simp only [I_band_permitted, j4]
theorem room2 {α : Type} (l : List α) (x y : α) (by_ : Nat) (hl : l.length ≤ 1000000) (hby : by_ ≤ 10000) : decide ((l.length + [x, y].length) * by_ ≤ roomBytes') = true := by
  have p1 : (l.length + [x, y].length) * by_ ≤ 1000002 * 10000 := Nat.mul_le_mul (by simp; omega) hby
  exact decide_eq_true (by unfold roomBytes'; omega)
theorem catR_is {a b : List G_Row} (ha : a.length ≤ 100000) (hb : b.length ≤ 100000) (R : Type) (k : List G_Row → Option R) : slices_Concat__Row [a, b] k = k (a ++ b) := by
  rw [li_slices_Concat__Row]; exact sCat_two a b ha hb (by omega) (by have := NN_ok; omega) k
theorem compI_is {l : List Int} (hl : l.length ≤ 100000) (R : Type) (k : List Int → Option R) : slices_Compact__int l k = k (compactP (fun x y => x == y) l) := by
  rw [li_slices_Compact__int]
  exact sComp_is (fun x y => x == y) (fun _ => True) (fun x y _ _ R k => rfl) l (by have := NN_ok; omega) (by have := NN_ok; omega) (fun _ _ => trivial) k
theorem sortI__is {l : List Int} (hl : l.length ≤ 1000000) (R : Type) (k : List Int → Option R) : slices_Sort__int l k = k (srtI l) := X_sorto_is hl k
theorem Q_rowsOf_1_1_is (r : G_Row) (n : Int) (R : Type) (k : Bool → Int → Option R) : Q_rowsOf_1_1 r n k = k (inRow r n) n := by
  simp only [Q_rowsOf_1_1, Q_rowsOf_1_1_, inRow]
  cases decide (r.f_From ≤ n) <;> rfl
theorem Q_rowsOf_1_is {l : List G_Row} (hl : l.length ≤ 100000) (n : Int) (R : Type) (k : Bool → Option R) : Q_rowsOf_1 l n k = k (cov l n) := by
  simp only [Q_rowsOf_1, Q_rowsOf_1_, I_Q_rowsOf_1, slices_ContainsFunc__Row_Q_rowsOf_1_1, slices_ContainsFunc__Row_Q_rowsOf_1_1_, I_slices_ContainsFunc__Row_Q_rowsOf_1_1, li_slices_IndexFunc__Row_Q_rowsOf_1_1]
  rw [sIndexF_is _ (fun r => inRow r n) n l (fun x hx R k => Q_rowsOf_1_1_is x n R k) (by have := NN_ok; omega) (by have := NN_ok; omega), idxI_ge]
  rfl
theorem Q_rowsOf_edges (l w cc : List G_Row) (hl : cc.length ≤ 1000) : ∀ (xs : List G_Row) (n i : Nat) (out : List Int), cc.drop i = xs → xs.length < n → out.length ≤ 2 * i →
    ∀ (R : Type) (e0 : List G_Row → List G_Row → List Int → Option R), Q_rowsOf_L3 I_Q_rowsOf n l w (cc.length : Int) (i : Int) cc out e0 = e0 l w (out ++ edges xs)
  | _, 0, _, _, _, h, _, _, _ => by omega
  | [], n + 1, i, out, h, _, _, R, e0 => by rw [Q_rowsOf_L3, ge_drop h]; simp [edges]
  | r :: xs, n + 1, i, out, h, hn, ho, R, e0 => by
    have h' := drop_cons h
    have ih := Q_rowsOf_edges l w cc hl xs n (i + 1) (out ++ [r.f_From, r.f_To]) h'.2.2.1 (by simp at hn; omega) (by simp; omega) R e0
    rw [Q_rowsOf_L3, lt_drop h]
    simp only [cond_true, inr_drop h, at_drop h, w64_succ (show i < 4611686018427387904 by omega), room2 out r.f_From r.f_To 8 (show out.length ≤ 1000000 by omega) (by omega), ih]
    simp [edges]
theorem addE_nil (a b : Int) : addE [] a b = [⟨a, b⟩] := rfl
theorem addE_snoc (pre : List G_Row) (p : G_Row) (a b : Int) : addE (pre ++ [p]) a b = bif p.f_To == a then pre ++ [⟨p.f_From, b⟩] else pre ++ [p] ++ [⟨a, b⟩] := by
  unfold addE
  rw [show (pre ++ [p]).getLast? = some p by simp, List.dropLast_concat]
theorem addE_len (out : List G_Row) (a b : Int) : (addE out a b).length ≤ out.length + 1 := by
  rcases snoc_or out with rfl | ⟨pre, p, rfl⟩
  · simp [addE_nil]
  · rw [addE_snoc]
    cases p.f_To == a <;> simp
theorem Q_rowsOf_loop (l w : List G_Row) (hl : l.length ≤ 1000) (hw : w.length ≤ 1000) (es : List Int) (hes : es.length ≤ 5000) : ∀ (xs : List Int) (n i : Nat) (out : List G_Row), es.drop i = xs → i ≤ es.length → xs.length < n → out.length ≤ i →
    ∀ (R : Type) (e0 : List G_Row → Option R), Q_rowsOf_L12 I_Q_rowsOf n l w (i : Int) es out e0 = e0 (edgeL (fun n => cov l n && !cov w n) out xs)
  | _, 0, _, _, _, _, h, _, _, _ => by omega
  | [], n + 1, i, out, h, hi, _, _, R, e0 => by
    have := drop_nil h
    rw [Q_rowsOf_L12, w64_succ (show i < 4611686018427387904 by omega), decide_eq_false (by omega)]; rfl
  | [a], n + 1, i, out, h, hi, _, _, R, e0 => by
    have h' := drop_cons h
    simp at h'
    rw [Q_rowsOf_L12, w64_succ (show i < 4611686018427387904 by omega), decide_eq_false (by omega)]; rfl
  | a :: b :: rest, n + 1, i, out, h, hi, hn, ho, R, e0 => by
    have h' := drop_cons h
    have h2 := h'.2.2.1
    have h2' := drop_cons h2
    simp only [List.length_cons] at hn
    have ih := fun out (ho : List.length out ≤ i + 1) => Q_rowsOf_loop l w hl hw es hes (b :: rest) n (i + 1) out h2 (by omega) (by simp only [List.length_cons]; omega) ho R e0
    have ih1 := ih out (by omega)
    have ih2 := ih (addE out a b) (by have := addE_len out a b; omega)
    rw [Q_rowsOf_L12, w64_succ (show i < 4611686018427387904 by omega), decide_eq_true (show ((i + 1 : Nat) : Int) < (es.length : Int) by omega)]
    simp only [I_Q_rowsOf] at ih1 ih2
    simp only [cond_true, inr_drop h, at_drop h, inr_drop h2, at_drop h2, I_Q_rowsOf, Q_rowsOf_1_is (show l.length ≤ 100000 by omega), Q_rowsOf_1_is (show w.length ≤ 100000 by omega), ih1, edgeL]
    cases hc : cov l a with
    | false => simp only [Bool.not_false, cond_true, Bool.false_and, cond_false]
    | true =>
      cases hd : cov w a with
      | true => simp only [Bool.not_true, cond_false, cond_true, Bool.and_false]
      | false =>
        simp only [Bool.not_true, cond_false, Bool.not_false, Bool.and_true, cond_true]
        rw [← ih2]
        rcases snoc_or out with rfl | ⟨pre, p, rfl⟩
        · rw [decide_eq_false (show ¬ w64 ((([] : List G_Row).length : Int) - 1) ≥ 0 by rw [w64_eq (by simp) (by simp)]; simp)]
          simp only [cond_false, room1 [] _ 16 (show ([] : List G_Row).length ≤ 1000000 by simp) (by omega), addE_nil]
          rfl
        · have hpl : pre.length ≤ 1000000 := by simp at ho; omega
          rw [decide_eq_true (show w64 (((pre ++ [p]).length : Int) - 1) ≥ 0 by rw [last_at hpl]; omega)]
          simp only [cond_true, last_get _ hpl, room1 (pre ++ [p]) _ 16 (show (pre ++ [p]).length ≤ 1000000 by simp at ho ⊢; omega) (by omega)]
          rw [addE_snoc]
          cases p.f_To == a with
          | true => simp only [cond_true, last_at hpl, set_nat, set_mid]
          | false => simp only [cond_false]
theorem Q_rowsOf_is {l w : List G_Row} (hl : l.length ≤ 500) (hw : w.length ≤ 500) (R : Type) (k : List G_Row → Option R) : Q_rowsOf l w k = k (rowsL l w) := by
  have hlen : (l ++ w).length ≤ 1000 := by simp; omega
  have h1 : ∀ e0 : List G_Row → List G_Row → List Int → Option R, Q_rowsOf_L3 I_Q_rowsOf I_Q_rowsOf.N l w ((l ++ w).length : Int) 0 (l ++ w) [] e0 = e0 l w (edges (l ++ w)) := fun e0 => by
    have := Q_rowsOf_edges l w (l ++ w) hlen (l ++ w) NN 0 [] rfl (by have := NN_ok; omega) (by simp) R e0
    rw [List.nil_append] at this; exact this
  have he := edges_len (l ++ w)
  have hs : (srtI (edges (l ++ w))).length = (edges (l ++ w)).length := List.length_mergeSort _
  have ho := edgesOf_len (l ++ w)
  have h2 : ∀ e0 : List G_Row → Option R, Q_rowsOf_L12 I_Q_rowsOf I_Q_rowsOf.N l w 0 (edgesOf (l ++ w)) [] e0 = e0 (rowsL l w) := fun e0 =>
    Q_rowsOf_loop l w (by omega) (by omega) (edgesOf (l ++ w)) (by omega) (edgesOf (l ++ w)) NN 0 [] rfl (by omega) (by have := NN_ok; omega) (by simp) R e0
  have hc : ∀ k : List Int → Option R, slices_Compact__int (srtI (edges (l ++ w))) k = k (edgesOf (l ++ w)) := fun k => compI_is (by omega) R k
  simp only [I_Q_rowsOf] at h1 h2
  simp only [Q_rowsOf, Q_rowsOf_, I_Q_rowsOf, catR_is (show l.length ≤ 100000 by omega) (show w.length ≤ 100000 by omega), h1, sortI__is (show (edges (l ++ w)).length ≤ 1000000 by omega), hc, h2]
theorem band_May_1_is (r u : G_Row) (R : Type) (k : Bool → G_Row → Option R) : band_May_1 r u k = k (decide (r.f_From ≤ u.f_From) && decide (u.f_To ≤ r.f_To)) u := by
  simp only [band_May_1, band_May_1_]
  cases decide (r.f_From ≤ u.f_From) <;> rfl
theorem con_may {l : List G_Row} (hl : l.length ≤ 100000) (u : G_Row) (R : Type) (k : Bool → G_Row → Option R) : slices_ContainsFunc__Row_band_May_1 l u k = k (l.any fun r => decide (r.f_From ≤ u.f_From) && decide (u.f_To ≤ r.f_To)) u := by
  simp only [slices_ContainsFunc__Row_band_May_1, slices_ContainsFunc__Row_band_May_1_, I_slices_ContainsFunc__Row_band_May_1, li_slices_IndexFunc__Row_band_May_1]
  rw [sIndexF_is _ (fun r => decide (r.f_From ≤ u.f_From) && decide (u.f_To ≤ r.f_To)) u l (fun x hx R k => band_May_1_is x u R k) (by have := NN_ok; omega) (by have := NN_ok; omega), idxI_ge]
def usedR (hertz width : Int) : G_Row := ⟨w64 (hertz - w64 (Int.tdiv width 2)), w64 (w64 (hertz - w64 (Int.tdiv width 2)) + width)⟩
end Go.Am
