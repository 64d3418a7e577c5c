/- The plain law, in Lean alone: Q3, Q4. No condition: lemmas for the claim. -/
import Derived.Test.YtomkgnajoccdbaaGreatDoorPlQ1
set_option linter.unusedVariables false
set_option linter.unusedSectionVars false
set_option linter.unusedSimpArgs false
set_option maxRecDepth 100000
namespace Go.Am
open Go Go.Proofs
variable [Fuel]
def meetB (a b : G_Row) : Bool := decide (a.f_From < b.f_To) && decide (b.f_From < a.f_To)
theorem band_meet_is (a b : G_Row) (R : Type) (k : Bool → Option R) : band_meet a b k = k (meetB a b) := by
  simp only [band_meet, band_meet_, meetB]
  cases decide (a.f_From < b.f_To) <;> rfl
def rowT (w : G_Window) : G_Row := ⟨w.f_From, w.f_To⟩
def nearB (a b : G_Busy) : Bool := meetB (usedU a) (usedU b) && meetB (rowT a.f_Time) (rowT b.f_Time)
def tooB (a b : G_Busy) : Bool := !(a.f_Who == b.f_Who) && nearB a b
def pairU (a b : G_Busy) : G_Pair := ⟨a.f_Who, b.f_Who⟩
theorem Q_near_is {a b : G_Busy} (ha : GoodU a) (hb : GoodU b) (R : Type) (k : Bool → Option R) : Q_near a b k = k (nearB a b) := by
  have ea := usedU_is ha
  have eb := usedU_is hb
  have wa := ha.w1
  have wb := hb.w1
  have ta := ha.t1
  have tb := hb.t1
  have hu : ∀ (x y : Int) (k : G_Row → Option R), I_Q_near.Q_uses x y k = k (usedR x y) := fun x y k => rfl
  simp only [Q_near, Q_near_, hu]
  show (bif decide ((if (usedU b).f_From > (usedU a).f_From then (usedU b).f_From else (usedU a).f_From) < (if (usedU b).f_To < (usedU a).f_To then (usedU b).f_To else (usedU a).f_To)) then k _ else k false) = _
  have h1 : decide ((if (usedU b).f_From > (usedU a).f_From then (usedU b).f_From else (usedU a).f_From) < (if (usedU b).f_To < (usedU a).f_To then (usedU b).f_To else (usedU a).f_To)) = meetB (usedU a) (usedU b) := by
    rw [ea, eb]
    unfold meetB
    rw [Bool.eq_iff_iff, Bool.and_eq_true, decide_eq_true_eq, decide_eq_true_eq, decide_eq_true_eq]
    simp only
    split <;> split <;> omega
  have h2 : decide ((if b.f_Time.f_From > a.f_Time.f_From then b.f_Time.f_From else a.f_Time.f_From) < (if b.f_Time.f_To < a.f_Time.f_To then b.f_Time.f_To else a.f_Time.f_To)) = meetB (rowT a.f_Time) (rowT b.f_Time) := by
    unfold meetB rowT
    rw [Bool.eq_iff_iff, Bool.and_eq_true, decide_eq_true_eq, decide_eq_true_eq, decide_eq_true_eq]
    simp only
    split <;> split <;> omega
  rw [h1, h2]
  unfold nearB
  cases meetB (usedU a) (usedU b) <;> rfl
theorem band_TooNear_L9_is (v34 v35 : List G_Busy) (v36 v37 : Int) (a : G_Busy) (l : List G_Busy) (hl : l.length ≤ 1000) : ∀ (xs : List G_Busy) (n i B : Nat) (out : List G_Pair), l.drop i = xs → xs.length < n → B ≤ 100000 → out.length ≤ B + i →
    ∀ (R : Type) (e0 : List G_Busy → List G_Busy → Int → Int → List G_Pair → Option R), band_TooNear_L9 I_band_TooNear n v34 v35 v36 v37 l (l.length : Int) (i : Int) a out e0 = e0 v34 v35 v36 v37 (out ++ (xs.filter (tooB a)).map (pairU a))
  | _, 0, _, _, _, _, h, _, _, _, _ => by omega
  | [], n + 1, i, B, out, h, _, _, _, R, e0 => by rw [band_TooNear_L9, ge_drop h]; simp
  | r :: xs, n + 1, i, B, out, h, hn, hB, ho, R, e0 => by
    have h' := drop_cons h
    simp at hn
    have ih1 := band_TooNear_L9_is v34 v35 v36 v37 a l hl xs n (i + 1) B (out ++ [pairU a r]) h'.2.2.1 (by omega) hB (by simp; omega) R e0
    have ih2 := band_TooNear_L9_is v34 v35 v36 v37 a l hl xs n (i + 1) B out h'.2.2.1 (by omega) hB (by omega) R e0
    rw [band_TooNear_L9, lt_drop h]
    have hu : ∀ (x y : Int) (k : G_Row → Option R), I_band_TooNear.band_used x y k = k (usedR x y) := fun x y k => rfl
    have hm : ∀ (x y : G_Row) (k : Bool → Option R), I_band_TooNear.band_meet x y k = k (meetB x y) := fun x y k => band_meet_is x y R k
    simp only [cond_true, get_drop h, w64_succ (show i < 4611686018427387904 by omega), hu, hm]
    show (bif !(a.f_Who == r.f_Who) then (bif meetB (usedU a) (usedU r) then (bif meetB (rowT a.f_Time) (rowT r.f_Time) then (bif decide ((out.length + [pairU a r].length) * 32 ≤ roomBytes') then band_TooNear_L9 I_band_TooNear n v34 v35 v36 v37 l (l.length : Int) ((i + 1 : Nat) : Int) a (out ++ [pairU a r]) e0 else none) else band_TooNear_L9 I_band_TooNear n v34 v35 v36 v37 l (l.length : Int) ((i + 1 : Nat) : Int) a out e0) else band_TooNear_L9 I_band_TooNear n v34 v35 v36 v37 l (l.length : Int) ((i + 1 : Nat) : Int) a out e0) else band_TooNear_L9 I_band_TooNear n v34 v35 v36 v37 l (l.length : Int) ((i + 1 : Nat) : Int) a out e0) = _
    rw [ih1, ih2, room1 out _ 32 (show out.length ≤ 1000000 by omega) (by omega)]
    have ht : tooB a r = (!(a.f_Who == r.f_Who) && (meetB (usedU a) (usedU r) && meetB (rowT a.f_Time) (rowT r.f_Time))) := rfl
    cases h1 : !(a.f_Who == r.f_Who) <;> cases h2 : meetB (usedU a) (usedU r) <;> cases h3 : meetB (rowT a.f_Time) (rowT r.f_Time) <;> simp [ht, h1, h2, h3]
theorem Q_NearPairs_L6_is (v34 v35 : List G_Busy) (v36 v37 : Int) {a : G_Busy} (ha : GoodU a) (l : List G_Busy) (hg : ∀ b ∈ l, GoodU b) (hl : l.length ≤ 1000) : ∀ (xs : List G_Busy) (n i B : Nat) (out : List G_Pair), l.drop i = xs → xs.length < n → B ≤ 100000 → out.length ≤ B + i →
    ∀ (R : Type) (e0 : List G_Busy → List G_Busy → Int → Int → List G_Pair → Option R), Q_NearPairs_L6 I_Q_NearPairs n v34 v35 v36 v37 l (l.length : Int) (i : Int) a out e0 = e0 v34 v35 v36 v37 (out ++ (xs.filter (tooB a)).map (pairU a))
  | _, 0, _, _, _, _, h, _, _, _, _ => by omega
  | [], n + 1, i, B, out, h, _, _, _, R, e0 => by rw [Q_NearPairs_L6, ge_drop h]; simp
  | r :: xs, n + 1, i, B, out, h, hn, hB, ho, R, e0 => by
    have h' := drop_cons h
    simp at hn
    have ih1 := Q_NearPairs_L6_is v34 v35 v36 v37 ha l hg hl xs n (i + 1) B (out ++ [pairU a r]) h'.2.2.1 (by omega) hB (by simp; omega) R e0
    have ih2 := Q_NearPairs_L6_is v34 v35 v36 v37 ha l hg hl xs n (i + 1) B out h'.2.2.1 (by omega) hB (by omega) R e0
    rw [Q_NearPairs_L6, lt_drop h]
    have hm : ∀ (k : Bool → Option R), I_Q_NearPairs.Q_near a r k = k (nearB a r) := fun k => Q_near_is ha (hg r (mem_drop h)) R k
    simp only [cond_true, get_drop h, w64_succ (show i < 4611686018427387904 by omega), hm]
    show (bif !(a.f_Who == r.f_Who) then (bif nearB a r then (bif decide ((out.length + [pairU a r].length) * 32 ≤ roomBytes') then Q_NearPairs_L6 I_Q_NearPairs n v34 v35 v36 v37 l (l.length : Int) ((i + 1 : Nat) : Int) a (out ++ [pairU a r]) e0 else none) else Q_NearPairs_L6 I_Q_NearPairs n v34 v35 v36 v37 l (l.length : Int) ((i + 1 : Nat) : Int) a out e0) else Q_NearPairs_L6 I_Q_NearPairs n v34 v35 v36 v37 l (l.length : Int) ((i + 1 : Nat) : Int) a out e0) = _
    rw [ih1, ih2, room1 out _ 32 (show out.length ≤ 1000000 by omega) (by omega)]
    have ht : tooB a r = (!(a.f_Who == r.f_Who) && nearB a r) := rfl
    cases h1 : !(a.f_Who == r.f_Who) <;> cases h2 : nearB a r <;> simp [ht, h1, h2]
def nearsL : List G_Busy → List G_Pair
  | [] => []
  | a :: r => (r.filter (tooB a)).map (pairU a) ++ nearsL r
theorem slice_succ {α : Type} {l : List α} {i : Nat} {x : α} {xs : List α} (h : l.drop i = x :: xs) (hl : l.length ≤ 100000) : (decide (0 ≤ w64 ((i : Int) + 1)) && decide (w64 ((i : Int) + 1) ≤ (l.length : Int))) = true ∧ l.drop (w64 ((i : Int) + 1)).toNat = xs := by
  have h' := drop_cons h
  rw [w64_succ (by omega)]
  refine ⟨?_, by rw [Int.toNat_natCast]; exact h'.2.2.1⟩
  rw [Bool.and_eq_true, decide_eq_true_eq, decide_eq_true_eq]
  omega
theorem band_TooNear_L6_is (l : List G_Busy) (hl : l.length ≤ 200) : ∀ (xs : List G_Busy) (n i : Nat) (out : List G_Pair), l.drop i = xs → xs.length < n → out.length ≤ 300 * i →
    ∀ (R : Type) (e0 : List G_Pair → Option R), band_TooNear_L6 I_band_TooNear n l l (l.length : Int) (i : Int) out e0 = e0 (out ++ nearsL xs)
  | _, 0, _, _, _, h, _, _, _ => by omega
  | [], n + 1, i, out, h, _, _, R, e0 => by rw [band_TooNear_L6, ge_drop h]; simp [nearsL]
  | a :: xs, n + 1, i, out, h, hn, ho, R, e0 => by
    have h' := drop_cons h
    simp at hn
    have hlen : ((xs.filter (tooB a)).map (pairU a)).length ≤ 200 := by rw [List.length_map]; exact Nat.le_trans (List.length_filter_le _ _) (by omega)
    have ih := band_TooNear_L6_is l hl xs n (i + 1) (out ++ (xs.filter (tooB a)).map (pairU a)) h'.2.2.1 (by omega) (by rw [List.length_append]; omega) R e0
    obtain ⟨c1, c2⟩ := slice_succ h (by omega)
    rw [band_TooNear_L6, lt_drop h]
    simp only [cond_true, get_drop h, c1, c2]
    have hin : ∀ e0 : List G_Busy → List G_Busy → Int → Int → List G_Pair → Option R, band_TooNear_L9 I_band_TooNear I_band_TooNear.N l l (l.length : Int) (i : Int) xs (xs.length : Int) 0 a out e0 = e0 l l (l.length : Int) (i : Int) (out ++ (xs.filter (tooB a)).map (pairU a)) := fun e0 =>
      band_TooNear_L9_is l l (l.length : Int) (i : Int) a xs (by omega) xs NN 0 (300 * i) out rfl (by have := NN_ok; omega) (by omega) (by omega) R e0
    rw [hin, w64_succ (show i < 4611686018427387904 by omega), ih]
    simp [nearsL]
theorem Q_NearPairs_L3_is (l : List G_Busy) (hg : ∀ b ∈ l, GoodU b) (hl : l.length ≤ 200) : ∀ (xs : List G_Busy) (n i : Nat) (out : List G_Pair), l.drop i = xs → xs.length < n → out.length ≤ 300 * i →
    ∀ (R : Type) (e0 : List G_Pair → Option R), Q_NearPairs_L3 I_Q_NearPairs n l l (l.length : Int) (i : Int) out e0 = e0 (out ++ nearsL xs)
  | _, 0, _, _, _, h, _, _, _ => by omega
  | [], n + 1, i, out, h, _, _, R, e0 => by rw [Q_NearPairs_L3, ge_drop h]; simp [nearsL]
  | a :: xs, n + 1, i, out, h, hn, ho, R, e0 => by
    have h' := drop_cons h
    simp at hn
    have hlen : ((xs.filter (tooB a)).map (pairU a)).length ≤ 200 := by rw [List.length_map]; exact Nat.le_trans (List.length_filter_le _ _) (by omega)
    have ih := Q_NearPairs_L3_is l hg hl xs n (i + 1) (out ++ (xs.filter (tooB a)).map (pairU a)) h'.2.2.1 (by omega) (by rw [List.length_append]; omega) R e0
    obtain ⟨c1, c2⟩ := slice_succ h (by omega)
    have hxs : ∀ b ∈ xs, GoodU b := fun b hb => hg b (List.mem_of_mem_drop (i := i + 1) (by rw [h'.2.2.1]; exact hb))
    rw [Q_NearPairs_L3, lt_drop h]
    simp only [cond_true, get_drop h, c1, c2]
    have hin : ∀ e0 : List G_Busy → List G_Busy → Int → Int → List G_Pair → Option R, Q_NearPairs_L6 I_Q_NearPairs I_Q_NearPairs.N l l (l.length : Int) (i : Int) xs (xs.length : Int) 0 a out e0 = e0 l l (l.length : Int) (i : Int) (out ++ (xs.filter (tooB a)).map (pairU a)) := fun e0 =>
      Q_NearPairs_L6_is l l (l.length : Int) (i : Int) (hg a (mem_drop h)) xs hxs (by omega) xs NN 0 (300 * i) out rfl (by have := NN_ok; omega) (by omega) (by omega) R e0
    rw [hin, w64_succ (show i < 4611686018427387904 by omega), ih]
    simp [nearsL]
theorem band_TooNear_is {l : List G_Busy} (hf : ∀ c ∈ l, FineU c) (hl : l.length ≤ 200) (R : Type) (k : List G_Pair → Int → Option R) : band_TooNear l k = bif faultU l != 0 then k [] (faultU l) else k (nearsL l) 0 := by
  have h : ∀ e0 : List G_Pair → Option R, band_TooNear_L6 I_band_TooNear I_band_TooNear.N l l (l.length : Int) 0 [] e0 = e0 (nearsL l) := fun e0 => by
    have := band_TooNear_L6_is l hl l NN 0 [] rfl (by have := NN_ok; omega) (by simp) R e0
    rw [List.nil_append] at this
    exact this
  have hc : ∀ k : Int → Option R, I_band_TooNear.band_CheckBusy l k = k (faultU l) := fun k => band_CheckBusy_is hf (by omega) R k
  simp only [band_TooNear, band_TooNear_, hc, h]
theorem Q_NearPairs_is {l : List G_Busy} (hg : ∀ b ∈ l, GoodU b) (hl : l.length ≤ 200) (R : Type) (k : List G_Pair → Option R) : Q_NearPairs l k = k (nearsL l) := by
  have h : ∀ e0 : List G_Pair → Option R, Q_NearPairs_L3 I_Q_NearPairs I_Q_NearPairs.N l l (l.length : Int) 0 [] e0 = e0 (nearsL l) := fun e0 => by
    have := Q_NearPairs_L3_is l hg hl l NN 0 [] rfl (by have := NN_ok; omega) (by simp) R e0
    rw [List.nil_append] at this
    exact this
  simp only [Q_NearPairs, Q_NearPairs_, h]
def manyU (a : G_Busy) : Int → List G_Busy → Int
  | m, [] => m
  | m, b :: bs => manyU a (bif hasU a.f_Time.f_From b then w64 (m + 1) else m) bs
def mostU (l : List G_Busy) : Int → List G_Busy → Int
  | m, [] => m
  | m, a :: r => mostU l (if manyU a 0 l > m then manyU a 0 l else m) r
theorem band_Fewest_L10_is (v30 : List G_Busy) (v31 : Int) (v33 : List G_Busy) (v34 v35 : Int) (a : G_Busy) (l : List G_Busy) (hl : l.length ≤ 100000) : ∀ (xs : List G_Busy) (n i : Nat) (m : Int), l.drop i = xs → xs.length < n →
    ∀ (R : Type) (e0 : List G_Busy → Int → Int → List G_Busy → Int → Int → Option R), band_Fewest_L10 I_band_Fewest n v30 v31 m v33 v34 v35 l (l.length : Int) (i : Int) a e0 = e0 v30 v31 (manyU a m xs) v33 v34 v35
  | _, 0, _, _, _, h, _, _ => by omega
  | [], n + 1, i, m, h, _, R, e0 => by rw [band_Fewest_L10, ge_drop h]; rfl
  | b :: xs, n + 1, i, m, h, hn, R, e0 => by
    have h' := drop_cons h
    simp at hn
    have ih := fun m => band_Fewest_L10_is v30 v31 v33 v34 v35 a l hl xs n (i + 1) m h'.2.2.1 (by omega) R e0
    rw [band_Fewest_L10, lt_drop h]
    have hk : ∀ k : Bool → Option R, I_band_Fewest.kit_Has b.f_Time a.f_Time.f_From k = k (hasU a.f_Time.f_From b) := fun k => kit_Has_is b.f_Time _ R k
    simp only [cond_true, get_drop h, w64_succ (show i < 4611686018427387904 by omega), hk, ih, manyU]
    cases hasU a.f_Time.f_From b <;> rfl
theorem Q_FewestOf_L7_is (v30 : List G_Busy) (v31 : Int) (v33 : List G_Busy) (v34 v35 : Int) (a : G_Busy) (l : List G_Busy) (hl : l.length ≤ 100000) : ∀ (xs : List G_Busy) (n i : Nat) (m : Int), l.drop i = xs → xs.length < n →
    ∀ (R : Type) (e0 : List G_Busy → Int → Int → List G_Busy → Int → Int → Option R), Q_FewestOf_L7 NN n v30 v31 m v33 v34 v35 l (l.length : Int) (i : Int) a e0 = e0 v30 v31 (manyU a m xs) v33 v34 v35
  | _, 0, _, _, _, h, _, _ => by omega
  | [], n + 1, i, m, h, _, R, e0 => by rw [Q_FewestOf_L7, ge_drop h]; rfl
  | b :: xs, n + 1, i, m, h, hn, R, e0 => by
    have h' := drop_cons h
    simp at hn
    have ih := fun m => Q_FewestOf_L7_is v30 v31 v33 v34 v35 a l hl xs n (i + 1) m h'.2.2.1 (by omega) R e0
    rw [Q_FewestOf_L7, lt_drop h]
    simp only [cond_true, get_drop h, w64_succ (show i < 4611686018427387904 by omega), ih, manyU]
    have hh : hasU a.f_Time.f_From b = (decide (b.f_Time.f_From ≤ a.f_Time.f_From) && decide (a.f_Time.f_From < b.f_Time.f_To)) := rfl
    rw [hh]
    cases decide (b.f_Time.f_From ≤ a.f_Time.f_From) <;> cases decide (a.f_Time.f_From < b.f_Time.f_To) <;> rfl
theorem band_Fewest_L6_is (l : List G_Busy) (hl : l.length ≤ 100000) : ∀ (xs : List G_Busy) (n i : Nat) (m : Int), l.drop i = xs → xs.length < n →
    ∀ (R : Type) (e0 : Int → Option R), band_Fewest_L6 I_band_Fewest n l m l (l.length : Int) (i : Int) e0 = e0 (mostU l m xs)
  | _, 0, _, _, _, h, _, _ => by omega
  | [], n + 1, i, m, h, _, R, e0 => by rw [band_Fewest_L6, ge_drop h]; rfl
  | a :: xs, n + 1, i, m, h, hn, R, e0 => by
    have h' := drop_cons h
    simp at hn
    have ih := fun m => band_Fewest_L6_is l hl xs n (i + 1) m h'.2.2.1 (by omega) R e0
    rw [band_Fewest_L6, lt_drop h]
    have hin : ∀ e0 : List G_Busy → Int → Int → List G_Busy → Int → Int → Option R, band_Fewest_L10 I_band_Fewest I_band_Fewest.N l m 0 l (l.length : Int) (i : Int) l (l.length : Int) 0 a e0 = e0 l m (manyU a 0 l) l (l.length : Int) (i : Int) := fun e0 =>
      band_Fewest_L10_is l m l (l.length : Int) (i : Int) a l hl l NN 0 0 rfl (by have := NN_ok; omega) R e0
    simp only [cond_true, get_drop h, hin, w64_succ (show i < 4611686018427387904 by omega), ih, mostU]
theorem Q_FewestOf_L3_is (l : List G_Busy) (hl : l.length ≤ 100000) : ∀ (xs : List G_Busy) (n i : Nat) (m : Int), l.drop i = xs → xs.length < n →
    ∀ (R : Type) (e0 : Int → Option R), Q_FewestOf_L3 NN n l m l (l.length : Int) (i : Int) e0 = e0 (mostU l m xs)
  | _, 0, _, _, _, h, _, _ => by omega
  | [], n + 1, i, m, h, _, R, e0 => by rw [Q_FewestOf_L3, ge_drop h]; rfl
  | a :: xs, n + 1, i, m, h, hn, R, e0 => by
    have h' := drop_cons h
    simp at hn
    have ih := fun m => Q_FewestOf_L3_is l hl xs n (i + 1) m h'.2.2.1 (by omega) R e0
    rw [Q_FewestOf_L3, lt_drop h]
    have hin : ∀ e0 : List G_Busy → Int → Int → List G_Busy → Int → Int → Option R, Q_FewestOf_L7 NN NN l m 0 l (l.length : Int) (i : Int) l (l.length : Int) 0 a e0 = e0 l m (manyU a 0 l) l (l.length : Int) (i : Int) := fun e0 =>
      Q_FewestOf_L7_is l m l (l.length : Int) (i : Int) a l hl l NN 0 0 rfl (by have := NN_ok; omega) R e0
    simp only [cond_true, get_drop h, hin, w64_succ (show i < 4611686018427387904 by omega), ih, mostU]
theorem band_Fewest_is {l : List G_Busy} (hf : ∀ c ∈ l, FineU c) (hl : l.length ≤ 200) (R : Type) (k : Int → Int → Option R) : band_Fewest l k = bif faultU l != 0 then k 0 (faultU l) else k (mostU l 0 l) 0 := by
  have h : ∀ e0 : Int → Option R, band_Fewest_L6 I_band_Fewest I_band_Fewest.N l 0 l (l.length : Int) 0 e0 = e0 (mostU l 0 l) := fun e0 => band_Fewest_L6_is l (by omega) l NN 0 0 rfl (by have := NN_ok; omega) R e0
  have hc : ∀ k : Int → Option R, I_band_Fewest.band_CheckBusy l k = k (faultU l) := fun k => band_CheckBusy_is hf (by omega) R k
  simp only [band_Fewest, band_Fewest_, hc, h]
theorem Q_FewestOf_is {l : List G_Busy} (hl : l.length ≤ 200) (R : Type) (k : Int → Option R) : Q_FewestOf l k = k (mostU l 0 l) := by
  have h : ∀ e0 : Int → Option R, Q_FewestOf_L3 NN NN l 0 l (l.length : Int) 0 e0 = e0 (mostU l 0 l) := fun e0 => Q_FewestOf_L3_is l (by omega) l NN 0 0 rfl (by have := NN_ok; omega) R e0
  simp only [Q_FewestOf, Q_FewestOf_, h]
def farI (n wish : Int) : Int := if w64 (wish - n) > w64 (n - wish) then w64 (wish - n) else w64 (n - wish)
def clampI (wish : Int) (r : G_Row) : Int := if w64 (r.f_To - 1) < (if r.f_From > wish then r.f_From else wish) then w64 (r.f_To - 1) else (if r.f_From > wish then r.f_From else wish)
def nearestL (wish : Int) : Int → Bool → List G_Row → Int × Bool
  | b, s, [] => (b, s)
  | b, s, r :: rs => bif !s then nearestL wish (clampI wish r) true rs else bif decide (farI (clampI wish r) wish < farI b wish) then nearestL wish (clampI wish r) true rs else nearestL wish b s rs
theorem band_Nearest_L9_is (wish : Int) (l : List G_Row) (hl : l.length ≤ 100000) : ∀ (xs : List G_Row) (n i : Nat) (b : Int) (s : Bool), l.drop i = xs → xs.length < n →
    ∀ (R : Type) (e0 : Int → Bool → Option R), band_Nearest_L9 I_band_Nearest n b s (l.length : Int) (i : Int) wish l e0 = e0 (nearestL wish b s xs).1 (nearestL wish b s xs).2
  | _, 0, _, _, _, _, h, _, _ => by omega
  | [], n + 1, i, b, s, h, _, R, e0 => by rw [band_Nearest_L9, ge_drop h]; rfl
  | r :: xs, n + 1, i, b, s, h, hn, R, e0 => by
    have h' := drop_cons h
    simp at hn
    have ih := fun b s => band_Nearest_L9_is wish l hl xs n (i + 1) b s h'.2.2.1 (by omega) R e0
    have hk : ∀ (x y : Int) (k : Int → Int → Option R), I_band_Nearest.band_Nearest_1 x y k = k (farI x y) y := fun x y k => rfl
    rw [band_Nearest_L9, lt_drop h]
    simp only [cond_true, inr_drop h, at_drop h, w64_succ (show i < 4611686018427387904 by omega), hk]
    show (bif !s then band_Nearest_L9 I_band_Nearest n (clampI wish r) true (l.length : Int) ((i + 1 : Nat) : Int) wish l e0 else bif decide (farI (clampI wish r) wish < farI b wish) then band_Nearest_L9 I_band_Nearest n (clampI wish r) true (l.length : Int) ((i + 1 : Nat) : Int) wish l e0 else band_Nearest_L9 I_band_Nearest n b s (l.length : Int) ((i + 1 : Nat) : Int) wish l e0) = _
    rw [ih, ih]
    simp only [nearestL]
    cases s <;> cases decide (farI (clampI wish r) wish < farI b wish) <;> rfl
theorem Q_NearestTo_L3_is (wish : Int) (l : List G_Row) (hl : l.length ≤ 100000) : ∀ (xs : List G_Row) (n i : Nat) (b : Int) (s : Bool), l.drop i = xs → xs.length < n →
    ∀ (R : Type) (e0 : Int → Bool → Option R), Q_NearestTo_L3 I_Q_NearestTo n wish b s l (l.length : Int) (i : Int) e0 = e0 (nearestL wish b s xs).1 (nearestL wish b s xs).2
  | _, 0, _, _, _, _, h, _, _ => by omega
  | [], n + 1, i, b, s, h, _, R, e0 => by rw [Q_NearestTo_L3, ge_drop h]; rfl
  | r :: xs, n + 1, i, b, s, h, hn, R, e0 => by
    have h' := drop_cons h
    simp at hn
    have ih := fun b s => Q_NearestTo_L3_is wish l hl xs n (i + 1) b s h'.2.2.1 (by omega) R e0
    have hk : ∀ (x y : Int) (k : Int → Option R), I_Q_NearestTo.Q_apart x y k = k (farI x y) := fun x y k => rfl
    rw [Q_NearestTo_L3, lt_drop h]
    simp only [cond_true, get_drop h, w64_succ (show i < 4611686018427387904 by omega), hk]
    show (bif !s then Q_NearestTo_L3 I_Q_NearestTo n wish (clampI wish r) true l (l.length : Int) ((i + 1 : Nat) : Int) e0 else bif decide (farI (clampI wish r) wish < farI b wish) then Q_NearestTo_L3 I_Q_NearestTo n wish (clampI wish r) true l (l.length : Int) ((i + 1 : Nat) : Int) e0 else Q_NearestTo_L3 I_Q_NearestTo n wish b s l (l.length : Int) ((i + 1 : Nat) : Int) e0) = _
    rw [ih, ih]
    simp only [nearestL]
    cases s <;> cases decide (farI (clampI wish r) wish < farI b wish) <;> rfl
theorem Q_NearestTo_is {l : List G_Row} (hl : l.length ≤ 100000) (wish : Int) (R : Type) (k : Int → Bool → Option R) : Q_NearestTo l wish k = k (nearestL wish 0 false l).1 (nearestL wish 0 false l).2 := by
  have h : ∀ e0 : Int → Bool → Option R, Q_NearestTo_L3 I_Q_NearestTo I_Q_NearestTo.N wish 0 false l (l.length : Int) 0 e0 = e0 (nearestL wish 0 false l).1 (nearestL wish 0 false l).2 := fun e0 => Q_NearestTo_L3_is wish l hl l NN 0 0 false rfl (by have := NN_ok; omega) R e0
  simp only [Q_NearestTo, Q_NearestTo_, h]
end Go.Am
set_option linter.unusedVariables false
set_option linter.unusedSectionVars false
set_option linter.unusedSimpArgs false
set_option maxRecDepth 100000
namespace Go.Am
open Go Go.Proofs
variable [Fuel]
noncomputable def faultFree (l : List G_Segment) (ul : List G_Busy) (c : List UInt8) (mode w at0 : Int) : Int := orL [faultG l, faultU ul, nameF c, outF mode 1 3 4, outF w 1 100000 1, momF at0]
theorem band_freeFault_is {l : List G_Segment} (hf : ∀ c ∈ l, FineG c) (hl : l.length ≤ 400) {ul : List G_Busy} (hu : ∀ c ∈ ul, FineU c) (hul : ul.length ≤ 200) {c : List UInt8} (hc : c ∈ classL) (mode w at0 : Int) (R : Type) (k : Int → Option R) :
    band_freeFault l ul c mode w at0 k = k (faultFree l ul c mode w at0) := by
  have h1 : ∀ k : Int → Option R, I_band_freeFault.band_CheckSegments l k = k (faultG l) := fun k => band_CheckSegments_is hf (by omega) R k
  have h2 : ∀ k : Int → Option R, I_band_freeFault.band_CheckBusy ul k = k (faultU ul) := fun k => band_CheckBusy_is hu (by omega) R k
  have h3 : ∀ k : Bool → Option R, I_band_freeFault.kit_IsKey c k = k (keyB c) := fun k => kit_IsKey_cls hc R k
  have h4 : ∀ k : Bool → Option R, I_band_freeFault.kit_IsMode mode k = k (inB mode 1 3) := fun k => kit_IsMode_is mode R k
  have h5 : ∀ k : Bool → Option R, I_band_freeFault.kit_Outside w 1 100000 k = k (!inB w 1 100000) := fun k => kit_Outside_is w 1 100000 R k
  have h6 : ∀ k : Bool → Option R, I_band_freeFault.kit_IsMoment at0 k = k (momB at0) := fun k => kit_IsMoment_is at0 R k
  simp only [band_freeFault, band_freeFault_, h1, h2, h3, h4, h5, h6, faultFree, orL, nameF, outF, momF]
  cases faultG l != 0 with
  | true => rfl
  | false =>
    cases faultU ul != 0 with
    | true => rfl
    | false => cases keyB c <;> cases inB mode 1 3 <;> cases inB w 1 100000 <;> cases momB at0 <;> rfl
theorem band_Free_is {l : List G_Segment} (hf : ∀ c ∈ l, FineG c) (hl : l.length ≤ 400) {ul : List G_Busy} (hu : ∀ c ∈ ul, FineU c) (hul : ul.length ≤ 200) {c : List UInt8} (hc : c ∈ classL) (mode w at0 : Int) (R : Type) (k : List G_Row → Int → Option R) :
    band_Free l ul c mode w at0 k = bif faultFree l ul c mode w at0 != 0 then k [] (faultFree l ul c mode w at0) else k (freeL l ul c mode w at0) 0 := by
  have h1 : ∀ k : Int → Option R, I_band_Free.band_freeFault l ul c mode w at0 k = k (faultFree l ul c mode w at0) := fun k => band_freeFault_is hf hl hu hul hc mode w at0 R k
  simp only [band_Free, band_Free_, h1]
  rcases zero_or (faultFree l ul c mode w at0) with y | y
  · have z := orL_zero.1 y
    have hg : ∀ s ∈ l, GoodG s := faultG_good (z _ (by simp))
    have hgu : ∀ s ∈ ul, GoodU s := faultU_good (z _ (by simp))
    have hw : inB w 1 100000 = true := by
      have := z (outF w 1 100000 1) (by simp)
      cases hq : inB w 1 100000 with
      | true => rfl
      | false => simp [outF, hq] at this
    have hw := inB_is.1 hw
    have h2 : ∀ k : List G_Row → Option R, I_band_Free.band_free l ul c mode w at0 k = k (freeL l ul c mode w at0) := fun k => band_free_is (modes_of hf) hg hl hgu (by omega) c mode at0 hw.1 hw.2 R k
    rw [y, h2]
  · rw [y.1]; rfl
theorem band_Nearest_is {l : List G_Segment} (hf : ∀ c ∈ l, FineG c) (hl : l.length ≤ 400) {ul : List G_Busy} (hu : ∀ c ∈ ul, FineU c) (hul : ul.length ≤ 200) {c : List UInt8} (hc : c ∈ classL) (mode w at0 wish : Int) (R : Type) (k : Int → Bool → Int → Option R) :
    band_Nearest l ul c mode w at0 wish k = bif faultFree l ul c mode w at0 != 0 then k 0 false (faultFree l ul c mode w at0) else bif outF wish 0 30000000000 1 != 0 then k 0 false (outF wish 0 30000000000 1) else k (nearestL wish 0 false (freeL l ul c mode w at0)).1 (nearestL wish 0 false (freeL l ul c mode w at0)).2 0 := by
  have h1 : ∀ k : Int → Option R, I_band_Nearest.band_freeFault l ul c mode w at0 k = k (faultFree l ul c mode w at0) := fun k => band_freeFault_is hf hl hu hul hc mode w at0 R k
  have h5 : ∀ k : Bool → Option R, I_band_Nearest.kit_Outside wish 0 30000000000 k = k (!inB wish 0 30000000000) := fun k => kit_Outside_is wish 0 30000000000 R k
  simp only [band_Nearest, band_Nearest_, h1, h5, outF]
  rcases zero_or (faultFree l ul c mode w at0) with y | y
  · have z := orL_zero.1 y
    have hg : ∀ s ∈ l, GoodG s := faultG_good (z _ (by simp))
    have hgu : ∀ s ∈ ul, GoodU s := faultU_good (z _ (by simp))
    have hw : inB w 1 100000 = true := by
      have := z (outF w 1 100000 1) (by simp)
      cases hq : inB w 1 100000 with
      | true => rfl
      | false => simp [outF, hq] at this
    have hw := inB_is.1 hw
    have h2 : ∀ k : List G_Row → Option R, I_band_Nearest.band_free l ul c mode w at0 k = k (freeL l ul c mode w at0) := fun k => band_free_is (modes_of hf) hg hl hgu (by omega) c mode at0 hw.1 hw.2 R k
    have hp := permL_len c mode at0 l []
    have hlen : (freeL l ul c mode w at0).length ≤ 2000 := Nat.le_trans (shrL_len _ _) (rowsL_len2 (by simp at hp; omega) (by unfold usedBy; rw [List.length_map]; exact Nat.le_trans (List.length_filter_le _ _) (by omega)))
    have h3 : ∀ e0 : Int → Bool → Option R, band_Nearest_L9 I_band_Nearest I_band_Nearest.N 0 false ((freeL l ul c mode w at0).length : Int) 0 wish (freeL l ul c mode w at0) e0 = e0 (nearestL wish 0 false (freeL l ul c mode w at0)).1 (nearestL wish 0 false (freeL l ul c mode w at0)).2 := fun e0 =>
      band_Nearest_L9_is wish (freeL l ul c mode w at0) (by omega) (freeL l ul c mode w at0) NN 0 0 false rfl (by have := NN_ok; omega) R e0
    rw [y, h2, h3]
    cases inB wish 0 30000000000 <;> rfl
  · rw [y.1]; rfl
theorem equalP_is {l : List G_Pair} (hl : l.length ≤ 1000000) (R : Type) (k : Bool → Option R) : slices_Equal__Pair l l k = k true := by
  rw [li_slices_Equal__Pair]; exact sEqual_same (by have := NN_ok; omega) (by have := NN_ok; omega) (fun x => by rw [(eq_G_Pair_is x x).2 rfl]; rfl) k
theorem nearsL_len : ∀ (l : List G_Busy), l.length ≤ 200 → (nearsL l).length ≤ 200 * l.length
  | [], _ => by simp [nearsL]
  | a :: r, h => by
    have h1 := nearsL_len r (by simp at h; omega)
    have h2 : ((r.filter (tooB a)).map (pairU a)).length ≤ r.length := by rw [List.length_map]; exact List.length_filter_le _ _
    simp only [nearsL, List.length_append, List.length_cons] at h ⊢
    omega
theorem FF_J20 {ul : List G_Busy} (hu : ∀ c ∈ ul, FineU c) (hul : ul.length ≤ 200) (two n three kk : Int) (ok : Bool) (p : List G_Pair) (r : List G_Row) (hp : p.length ≤ 1000000) (hr : r.length ≤ 1000000) (R : Type) (k : Bool → Option R) :
    law_FrequenciesFree_J20 I_law_FrequenciesFree (faultU ul) two n ok three kk (faultU ul) (faultU ul) two three kk n ok ul p r p r k = k true := by
  have h1 : ∀ k : Int → Option R, I_law_FrequenciesFree.band_CheckBusy ul k = k (faultU ul) := fun k => band_CheckBusy_is hu (by omega) R k
  have h2 : ∀ k : Bool → Option R, I_law_FrequenciesFree.slices_Equal__Pair p p k = k true := fun k => equalP_is hp R k
  have h3 : ∀ k : Bool → Option R, I_law_FrequenciesFree.slices_Equal__Row r r k = k true := fun k => equalR_is hr R k
  have h4 : ∀ k : Bool → Option R, I_law_FrequenciesFree.law_banded k = k true := fun k => law_banded_is R k
  simp only [law_FrequenciesFree_J20, h1, h2, h3, h4, beq_self_eq_true, cond_true]
theorem law_FrequenciesFree_true (l : List Int) (R : Type) (k : Bool → Option R) : law_FrequenciesFree l k = k true := by
  obtain ⟨x, s1, z1, lx, hx, e1⟩ := Stream_Segments_gives (sOk0 l) (by omega)
  obtain ⟨ul, s2, z2, lu, hu, e2⟩ := Stream_Busies_gives z1 (by omega)
  obtain ⟨c, s3, hc, z3, e3⟩ := Stream_Some_gives z2 [[102, 117, 108, 108], [102, 117, 108, 108], [115, 109, 97, 108, 108], []] (by omega) (by simp) (by simp)
  obtain ⟨width, s4, z4, e4⟩ := Stream_Wide_gives z3 (by omega)
  obtain ⟨mode, s5, _, z5, e5⟩ := Stream_Pick_gives z4 [1, 1, 2, 3, 0] (by omega) (by simp) (by simp)
  obtain ⟨at0, s6, _, z6, e6⟩ := Stream_Pick_gives z5 [0, 20, 60, 90, (-1)] (by omega) (by simp) (by simp)
  obtain ⟨wish, s7, z7, e7⟩ := Stream_Near_gives z6 (by omega)
  have hcl : c ∈ classL := sub_mem hc (by decide)
  have hlx : x.length ≤ 400 := by omega
  have hlu : ul.length ≤ 200 := by omega
  have hp := permL_len c mode at0 x []
  have hlen : (freeL x ul c mode width at0).length ≤ 2000 := Nat.le_trans (shrL_len _ _) (rowsL_len2 (by simp at hp; omega) (by unfold usedBy; rw [List.length_map]; exact Nat.le_trans (List.length_filter_le _ _) (by omega)))
  have hnl := nearsL_len ul hlu
  have hQM : ∀ (y : Int) (k : Int → Option R), Q_MomentFault y k = k (momF y) := fun y k => Q_MomentFault_is y R k
  have hnr : ∀ k : Int → Bool → Option R, Q_NearestTo (freeL x ul c mode width at0) wish k = k _ _ := fun k => Q_NearestTo_is (by omega) wish R k
  have hfr : ∀ k : List G_Row → Option R, Q_FreeRows x ul c mode width at0 k = k (freeL x ul c mode width at0) := fun k => Q_FreeRows_is (modes_of hx) hlx (by omega) c mode width at0 R k
  have hfe : ∀ k : Int → Option R, Q_FewestOf ul k = k (mostU ul 0 ul) := fun k => Q_FewestOf_is hlu R k
  have hj := fun two n three kk ok p r hp hr => FF_J20 hu hlu two n three kk ok p r hp hr R k
  simp only [I_law_FrequenciesFree] at hj
  have f1 : orL [faultG x, faultU ul, nameF c, outF mode 1 3 4, outF width 1 100000 1, momF at0] = faultFree x ul c mode width at0 := rfl
  simp only [law_FrequenciesFree, law_FrequenciesFree_, I_law_FrequenciesFree, e1, e2, e3, e4, e5, e6, e7, band_TooNear_is hu hlu, band_Free_is hx hlx hu hlu hcl, band_Nearest_is hx hlx hu hlu hcl, band_Fewest_is hu hlu,
    Q_BusyFault_is hu (show ul.length ≤ 100000 by omega), Q_SegmentsFault_is hx (show x.length ≤ 100000 by omega), law_nameFault_is hcl, law_hertzFault_is, law_widthFault_is, law_modeFault_is, hQM,
    law_errs_is [faultG x, faultU ul, nameF c, outF mode 1 3 4, outF width 1 100000 1, momF at0] (by simp), f1, law_errs_is [faultFree x ul c mode width at0, outF wish 0 30000000000 1] (by simp), law_FrequenciesFree_J14, law_FrequenciesFree_J17]
  rcases zero_or (faultU ul) with y1 | y1
  · have hgu : ∀ s ∈ ul, GoodU s := faultU_good y1
    have hnp : ∀ k : List G_Pair → Option R, Q_NearPairs ul k = k (nearsL ul) := fun k => Q_NearPairs_is hgu hlu R k
    rw [y1] at hj
    rcases zero_or (faultFree x ul c mode width at0) with y2 | y2
    · rcases zero_or (outF wish 0 30000000000 1) with y3 | y3
      · have f3 : orL [faultFree x ul c mode width at0, outF wish 0 30000000000 1] = 0 := by rw [y2, y3]; rfl
        simp only [f3]
        simp only [y1, y2, y3, cond_true, cond_false, beq_self_eq_true, bne_self_eq_false, hnp, hfe, hfr, hnr]
        exact hj _ _ _ _ _ (nearsL ul) (freeL x ul c mode width at0) (by omega) (by omega)
      · have f3 : orL [faultFree x ul c mode width at0, outF wish 0 30000000000 1] = outF wish 0 30000000000 1 := by rw [y2]; unfold orL; unfold orL; rw [y3.1]; rfl
        simp only [f3]
        simp only [y1, y2, y3, cond_true, cond_false, beq_self_eq_true, bne_self_eq_false, hnp, hfe, hfr]
        exact hj _ _ _ _ _ (nearsL ul) (freeL x ul c mode width at0) (by omega) (by omega)
    · have f3 : orL [faultFree x ul c mode width at0, outF wish 0 30000000000 1] = faultFree x ul c mode width at0 := by unfold orL; rw [y2.1]; rfl
      simp only [f3]
      simp only [y1, y2, cond_true, cond_false, beq_self_eq_true, bne_self_eq_false, hnp, hfe]
      exact hj _ _ _ _ _ (nearsL ul) [] (by omega) (by simp)
  · have y2 : (faultFree x ul c mode width at0 != 0) = true ∧ (faultFree x ul c mode width at0 == 0) = false := by
      rcases zero_or (faultFree x ul c mode width at0) with y2 | y2
      · have := (orL_zero.1 y2) (faultU ul) (by simp)
        rw [this] at y1; simp at y1
      · exact y2
    have f3 : orL [faultFree x ul c mode width at0, outF wish 0 30000000000 1] = faultFree x ul c mode width at0 := by unfold orL; rw [y2.1]; rfl
    simp only [f3]
    simp only [y1, y2, cond_true, cond_false]
    exact hj _ _ _ _ _ _ _ (by simp) (by simp)
end Go.Am
