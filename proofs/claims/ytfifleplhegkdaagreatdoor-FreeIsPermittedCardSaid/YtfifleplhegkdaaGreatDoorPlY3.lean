/- The plain law, in Lean alone: Y3. No condition: lemmas for the claim. -/
import Derived.Test.YtfifleplhegkdaaGreatDoorPlY1
import Derived.Test.YtfifleplhegkdaaGreatDoorPlQ3
set_option linter.unusedVariables false
set_option linter.unusedSectionVars false
set_option linter.unusedSimpArgs false
set_option maxRecDepth 100000
namespace Go.Am
open Go Go.Proofs
variable [Fuel]
theorem nearestL_true (wish : Int) : ∀ (l : List G_Row) (b : Int), (nearestL wish b true l).2 = true ∧ ((nearestL wish b true l).1 = b ∨ ∃ r ∈ l, (nearestL wish b true l).1 = clampI wish r) ∧ farI (nearestL wish b true l).1 wish ≤ farI b wish ∧ ∀ r ∈ l, farI (nearestL wish b true l).1 wish ≤ farI (clampI wish r) wish
 | [], b => ⟨rfl, .inl rfl, Int.le_refl _, fun r h => by cases h⟩
 | r :: rs, b => by
  unfold nearestL
  simp only [Bool.not_true, cond_false]
  by_cases h : farI (clampI wish r) wish < farI b wish
  ·rw [decide_eq_true h]
   simp only [cond_true]
   obtain ⟨g1, g2, g3, g4⟩ := nearestL_true wish rs (clampI wish r)
   refine ⟨g1, ?_, by omega, fun x hx => ?_⟩
   ·rcases g2 with g2 | ⟨x, hx, g2⟩
    ·exact .inr ⟨r, by simp, g2⟩
    ·exact .inr ⟨x, by simp [hx], g2⟩
   ·rcases List.mem_cons.1 hx with rfl | hx
    ·exact g3
    ·exact g4 x hx
  ·rw [decide_eq_false h]
   simp only [cond_false]
   obtain ⟨g1, g2, g3, g4⟩ := nearestL_true wish rs b
   refine ⟨g1, ?_, g3, fun x hx => ?_⟩
   ·rcases g2 with g2 | ⟨x, hx, g2⟩
    ·exact .inl g2
    ·exact .inr ⟨x, by simp [hx], g2⟩
   ·rcases List.mem_cons.1 hx with rfl | hx
    ·omega
    ·exact g4 x hx
theorem nearestL_is (wish : Int) (l : List G_Row) : ((nearestL wish 0 false l).2 == decide ((l.length : Int) > 0)) = true ∧ (l ≠ [] → (∃ r ∈ l, (nearestL wish 0 false l).1 = clampI wish r) ∧ ∀ r ∈ l, farI (nearestL wish 0 false l).1 wish ≤ farI (clampI wish r) wish) := by
 cases l with
 | nil => exact ⟨rfl, fun h => absurd rfl h⟩
 | cons r rs =>
  unfold nearestL
  simp only [Bool.not_false, cond_true]
  obtain ⟨g1, g2, g3, g4⟩ := nearestL_true wish rs (clampI wish r)
  refine ⟨by rw [g1, decide_eq_true (by simp)]; rfl, fun _ => ⟨?_, fun x hx => ?_⟩⟩
  ·rcases g2 with g2 | ⟨x, hx, g2⟩
   ·exact ⟨r, by simp, g2⟩
   ·exact ⟨x, by simp [hx], g2⟩
  ·rcases List.mem_cons.1 hx with rfl | hx
   ·exact g3
   ·exact g4 x hx
theorem farI_is {n wish : Int} (h1 : -1000000000000 ≤ n) (h2 : n ≤ 1000000000000) (h3 : 0 ≤ wish) (h4 : wish ≤ 1000) : farI n wish = if wish - n > n - wish then wish - n else n - wish := by
 unfold farI
 rw [w64_eq (x := wish - n) (by omega) (by omega), w64_eq (x := n - wish) (by omega) (by omega)]
theorem clamp_is {r : G_Row} {wish : Int} (hr : 0 ≤ r.f_From ∧ r.f_To ≤ 30000000000) (hlt : r.f_From < r.f_To) (h3 : 0 ≤ wish) (h4 : wish ≤ 1000) : r.f_From ≤ clampI wish r ∧ clampI wish r < r.f_To ∧ ∀ h, r.f_From ≤ h → h < r.f_To → farI (clampI wish r) wish ≤ farI h wish := by
 have hc : r.f_From ≤ clampI wish r ∧ clampI wish r < r.f_To ∧ (clampI wish r = r.f_To - 1 ∧ r.f_To - 1 ≤ wish ∨ clampI wish r = wish ∨ clampI wish r = r.f_From ∧ wish ≤ r.f_From) := by
  unfold clampI
  rw [w64_eq (x := r.f_To - 1) (by omega) (by omega)]
  split <;> split <;> omega
 refine ⟨hc.1, hc.2.1, fun h a b => ?_⟩
 rw [farI_is (by omega) (by omega) h3 h4, farI_is (by omega) (by omega) h3 h4]
 split <;> split <;> omega
theorem usedR_is {h w : Int} (h1 : 0 ≤ h) (h2 : h ≤ 30000000000) (w1 : 1 ≤ w) (w2 : w ≤ 100000) : usedR h w = ⟨h - w / 2, h - w / 2 + w⟩ := by
 unfold usedR
 rw [half_of w1 w2, w64_eq (x := h - w / 2) (by omega) (by omega), w64_eq (by omega) (by omega)]
structure FreeOk (x : List G_Segment) (ul : List G_Busy) (cls : List UInt8) (w at0 : Int) (h : Int) : Prop where
 low : 0 ≤ h ∧ h ≤ 30000000000
 may : mayR x cls h w 1 at0 = true
 apart : ∀ b ∈ ul, hasU at0 b = true → ¬ ((if b.f_Hertz - b.f_Width / 2 > h - w / 2 then b.f_Hertz - b.f_Width / 2 else h - w / 2) < (if b.f_Hertz - b.f_Width / 2 + b.f_Width < h - w / 2 + w then b.f_Hertz - b.f_Width / 2 + b.f_Width else h - w / 2 + w))
theorem freeL_can {x : List G_Segment} (hg : ∀ s ∈ x, GoodG s) {ul : List G_Busy} (hu : ∀ b ∈ ul, GoodU b) (cls : List UInt8) {w : Int} (w1 : 1 ≤ w) (w2 : w ≤ 100000) (at0 : Int) :
  Can (freeL x ul cls 1 w at0) ∧ Low (freeL x ul cls 1 w at0) ∧ ∀ h, cov (freeL x ul cls 1 w at0) h = true → FreeOk x ul cls w at0 h := by
 obtain ⟨q1, q2⟩ := rows_can (permL cls 1 at0 [] x) (usedBy ul at0)
 have hlow := perm_low hg cls 1 at0 (usedBy ul at0)
 obtain ⟨y1, y2⟩ := shr_cov w1 w2 q1 hlow
 have key : ∀ h, cov (freeL x ul cls 1 w at0) h = true → ∀ m, h - w / 2 ≤ m → m < h - w / 2 + w → cov (permL cls 1 at0 [] x) m = true ∧ cov (usedBy ul at0) m = false := fun h hh m m1 m2 => by
  have := (y2 h).1 hh m m1 m2
  rw [q2, Bool.and_eq_true, Bool.not_eq_true'] at this
  exact this
 have hP : ∀ m, cov (permL cls 1 at0 [] x) m = true → 0 ≤ m ∧ m < 30000000000 := fun m hm => by
  obtain ⟨p, hp, h3, h4⟩ := cov_iff.1 hm
  rcases permL_mem cls 1 at0 x [] p hp with hh | ⟨s, hs, rfl⟩
  ·cases hh
  ·have := (hg s hs).low; have := (hg s hs).high; simp only at h3 h4; omega
 have bnd : ∀ h, cov (freeL x ul cls 1 w at0) h = true → 0 ≤ h ∧ h < 30000000000 := fun h hh => by
  have a := hP _ (key h hh (h - w / 2) (by omega) (by omega)).1
  have b := hP _ (key h hh (h - w / 2 + w - 1) (by omega) (by omega)).1
  omega
 refine ⟨y1, low_of y1.2 bnd, fun h hh => ?_⟩
 have hb := bnd h hh
 refine ⟨⟨hb.1, by omega⟩, ?_, fun b hb1 hb2 hov => ?_⟩
 ·unfold mayR
  rw [usedR_is hb.1 (by omega) w1 w2]
  have c1 := rows_can (permL cls 1 at0 [] x) []
  refine (inside_one c1.1 (u := ⟨h - w / 2, h - w / 2 + w⟩) (by simp only; omega)).2 fun m m1 m2 => ?_
  rw [c1.2, (key h hh m m1 m2).1]; rfl
 ·have hw := (hu b hb1).w1
  have : ∃ m, h - w / 2 ≤ m ∧ m < h - w / 2 + w ∧ b.f_Hertz - b.f_Width / 2 ≤ m ∧ m < b.f_Hertz - b.f_Width / 2 + b.f_Width := by
   by_cases hc : h - w / 2 ≤ b.f_Hertz - b.f_Width / 2
   ·refine ⟨b.f_Hertz - b.f_Width / 2, by omega, ?_, by omega, by omega⟩
    revert hov; split <;> split <;> omega
   ·refine ⟨h - w / 2, by omega, by omega, by omega, ?_⟩
    revert hov; split <;> split <;> omega
  obtain ⟨m, m1, m2, m3, m4⟩ := this
  have h5 := (key h hh m m1 m2).2
  have : cov (usedBy ul at0) m = true := cov_iff.2 ⟨usedU b, List.mem_map.2 ⟨b, List.mem_filter.2 ⟨hb1, hb2⟩, rfl⟩, by rw [usedU_is (hu b hb1)]; exact m3, by rw [usedU_is (hu b hb1)]; exact m4⟩
  rw [this] at h5; cases h5
theorem FP_L22 (x : List G_Segment) (ul : List G_Busy) (hu : ∀ b ∈ ul, GoodU b) (hul : ul.length ≤ 1000) (cls : List UInt8) {w : Int} (w1 : 1 ≤ w) (w2 : w ≤ 100000) (at0 wish : Int) (ok : Bool) {h : Int} (hh : FreeOk x ul cls w at0 h) (p q p2 q2 : Int) (r : List G_Row) (n0 : Int) (hs : List Int) :
  ∀ (xs : List G_Busy) (n i : Nat), ul.drop i = xs → xs.length < n → ∀ (R : Type) (e0 : Bool → Int → Int → Int → Bool → Int → Int → Int → Int → List G_Segment → List G_Busy → List G_Row → Int → List Int → Option R) (e1 : Int → Int → Int → Bool → Int → Int → Int → Int → List G_Segment → List G_Busy → List G_Row → Int → List Int → Option R),
   keep_FreeIsPermitted_L22 I_keep_FreeIsPermitted n w at0 wish ok (h - w / 2) p q p2 q2 (ul.length : Int) (i : Int) x ul r n0 hs e0 e1 = e1 w at0 wish ok p q p2 q2 x ul r n0 hs
 | _, 0, _, _, hn, _, _, _ => by omega
 | [], n + 1, i, hd, _, R, e0, e1 => by rw [keep_FreeIsPermitted_L22, ge_drop hd]; rfl
 | b :: xs, n + 1, i, hd, hn, R, e0, e1 => by
  have h' := drop_cons hd
  simp at hn
  have ih := FP_L22 x ul hu hul cls w1 w2 at0 wish ok hh p q p2 q2 r n0 hs xs n (i + 1) h'.2.2.1 (by omega) R e0 e1
  have hm := mem_drop hd
  have hg := hu b hm
  have b1 := hg.h1; have b2 := hg.h2; have b3 := hg.w1; have b4 := hg.w2
  have l1 := hh.low.1; have l2 := hh.low.2
  rw [keep_FreeIsPermitted_L22, lt_drop hd]
  simp only [cond_true, inr_drop hd, at_drop hd, w64_succ (show i < 4611686018427387904 by omega), ih, half_of hg.w1 hg.w2, w64_eq (x := b.f_Hertz - b.f_Width / 2) (by omega) (by omega), w64_eq (x := b.f_Hertz - b.f_Width / 2 + b.f_Width) (by omega) (by omega), w64_eq (x := h - w / 2 + w) (by omega) (by omega)]
  by_cases c1 : b.f_Time.f_From ≤ at0
  ·by_cases c2 : at0 < b.f_Time.f_To
   ·have := hh.apart b hm (by unfold hasU; rw [decide_eq_true c1, decide_eq_true c2]; rfl)
    rw [decide_eq_true c1, decide_eq_true c2, decide_eq_false this]; rfl
   ·rw [decide_eq_true c1, decide_eq_false c2]; rfl
  ·rw [decide_eq_false c1]; rfl
theorem FP_L15 {x : List G_Segment} (hx : ∀ c ∈ x, FineG c) (hxl : x.length ≤ 400) (hgx : faultG x = 0) (ul : List G_Busy) (hu : ∀ b ∈ ul, GoodU b) (hul : ul.length ≤ 1000) {w : Int} (w1 : 1 ≤ w) (w2 : w ≤ 100000) {at0 : Int} (ha : momB at0 = true) (wish : Int) (ok : Bool) (p q : Int) (r : List G_Row) (n0 : Int)
  (hs : List Int) (hsl : hs.length ≤ 1000) (hok : ∀ h ∈ hs, FreeOk x ul [102, 117, 108, 108] w at0 h ∧ ¬ farI h wish < farI n0 wish) : ∀ (xs : List Int) (n i : Nat), hs.drop i = xs → xs.length < n →
  ∀ (R : Type) (e0 : Bool → Int → Int → Int → Bool → Int → Int → List G_Segment → List G_Busy → List G_Row → Int → Option R) (e1 : Int → Int → Int → Bool → Int → Int → List G_Segment → List G_Busy → List G_Row → Int → Option R),
   keep_FreeIsPermitted_L15 I_keep_FreeIsPermitted n w at0 wish ok p q (hs.length : Int) (i : Int) x ul r n0 hs e0 e1 = e1 w at0 wish ok p q x ul r n0
 | _, 0, _, _, hn, _, _, _ => by omega
 | [], n + 1, i, hd, _, R, e0, e1 => by rw [keep_FreeIsPermitted_L15, ge_drop hd]; rfl
 | h :: xs, n + 1, i, hd, hn, R, e0, e1 => by
  have h' := drop_cons hd
  simp at hn
  have ih := FP_L15 hx hxl hgx ul hu hul w1 w2 ha wish ok p q r n0 hs hsl hok xs n (i + 1) h'.2.2.1 (by omega) R e0 e1
  obtain ⟨o1, o2⟩ := hok h (mem_drop hd)
  have hm : faultMay x [102, 117, 108, 108] h w 1 at0 = 0 := by
   have k1 : keyB [102, 117, 108, 108] = true := by
    obtain ⟨m, h, rfl⟩ := fuel_is ‹Fuel›
    kernel_rfl
   unfold faultMay faultN nameF outF momF
   rw [hgx, k1, ha, inB_is.2 ⟨o1.low.1, o1.low.2⟩, inB_is.2 ⟨w1, w2⟩]; rfl
  have hmay : ∀ k : Bool → Int → Option R, I_keep_FreeIsPermitted.band_May x [102, 117, 108, 108] h w 1 at0 k = k true 0 := fun k => by
   have := band_May_is hx hxl (show ([102, 117, 108, 108] : List UInt8) ∈ classL by simp [classL]) h w 1 at0 R k
   rw [hm, o1.may] at this
   exact this
  have hf : decide ((if w64 (wish - h) > w64 (h - wish) then w64 (wish - h) else w64 (h - wish)) < (if w64 (wish - n0) > w64 (n0 - wish) then w64 (wish - n0) else w64 (n0 - wish))) = false := decide_eq_false o2
  have l1 := o1.low.1; have l2 := o1.low.2
  rw [keep_FreeIsPermitted_L15, lt_drop hd]
  simp only [cond_true, inr_drop hd, at_drop hd, hmay, bne_self_eq_false, cond_false, Bool.not_true, hf, half_of w1 w2, w64_eq (x := h - w / 2) (by omega) (by omega)]
  have h22 := FP_L22 x ul hu hul [102, 117, 108, 108] w1 w2 at0 wish ok o1 p q (hs.length : Int) (i : Int) r n0 hs ul NN 0 rfl (by have := NN_ok; omega) R
  refine (h22 _ _).trans ?_
  rw [w64_succ (show i < 4611686018427387904 by omega)]
  exact ih
theorem FP_L10 {x : List G_Segment} (hx : ∀ c ∈ x, FineG c) (hxl : x.length ≤ 400) (hgx : faultG x = 0) (ul : List G_Busy) (hu : ∀ b ∈ ul, GoodU b) (hul : ul.length ≤ 1000) {w : Int} (w1 : 1 ≤ w) (w2 : w ≤ 100000) {at0 : Int} (ha : momB at0 = true) (wish : Int) (ok : Bool) (r : List G_Row) (hr : Can r) (hlow : Low r) (hrl : r.length ≤ 10000) (n0 : Int)
  (hok : ∀ z ∈ r, ∀ h, z.f_From ≤ h → h < z.f_To → FreeOk x ul [102, 117, 108, 108] w at0 h ∧ ¬ farI h wish < farI n0 wish) : ∀ (xs : List G_Row) (n i : Nat), r.drop i = xs → xs.length < n →
  ∀ (R : Type) (e0 : Bool → Bool → List G_Row → Int → Option R) (e1 : Bool → List G_Row → Int → Option R),
   keep_FreeIsPermitted_L10 I_keep_FreeIsPermitted n w at0 wish ok (r.length : Int) (i : Int) x ul r n0 e0 e1 = e1 ok r n0
 | _, 0, _, _, hn, _, _, _ => by omega
 | [], n + 1, i, hd, _, R, e0, e1 => by rw [keep_FreeIsPermitted_L10, ge_drop hd]; rfl
 | z :: xs, n + 1, i, hd, hn, R, e0, e1 => by
  have h' := drop_cons hd
  simp at hn
  have ih := FP_L10 hx hxl hgx ul hu hul w1 w2 ha wish ok r hr hlow hrl n0 hok xs n (i + 1) h'.2.2.1 (by omega) R e0 e1
  have hz := mem_drop hd
  have zlt := hr.2 z hz
  have zl := hlow z hz
  have hw1 : w64 (z.f_To - 1) = z.f_To - 1 := w64_eq (by omega) (by omega)
  have h15 : ∀ (e0 : Bool → Int → Int → Int → Bool → Int → Int → List G_Segment → List G_Busy → List G_Row → Int → Option R) (e1 : Int → Int → Int → Bool → Int → Int → List G_Segment → List G_Busy → List G_Row → Int → Option R),
    keep_FreeIsPermitted_L15 I_keep_FreeIsPermitted I_keep_FreeIsPermitted.N w at0 wish ok (r.length : Int) (i : Int) ([z.f_From, z.f_To - 1].length : Int) 0 x ul r n0 [z.f_From, z.f_To - 1] e0 e1 = e1 w at0 wish ok (r.length : Int) (i : Int) x ul r n0 := fun e0 e1 =>
   FP_L15 hx hxl hgx ul hu hul w1 w2 ha wish ok (r.length : Int) (i : Int) r n0 [z.f_From, z.f_To - 1] (by simp) (fun h hh => by
    simp only [List.mem_cons, List.not_mem_nil, or_false] at hh
    rcases hh with rfl | rfl
    ·exact hok z hz _ (by omega) (by omega)
    ·exact hok z hz _ (by omega) (by omega)) [z.f_From, z.f_To - 1] NN 0 rfl (by have := NN_ok; simp; omega) R e0 e1
  rw [keep_FreeIsPermitted_L10, lt_drop hd]
  simp only [cond_true, inr_drop hd, at_drop hd, decide_eq_false (show ¬ z.f_From ≥ z.f_To by omega), cond_false, hw1, h15, w64_succ (show i < 4611686018427387904 by omega), ih]
  cases i with
  | zero => rfl
  | succ j =>
   have hj : w64 (((j + 1 : Nat) : Int) - 1) = (j : Int) := by rw [w64_eq (by omega) (by omega)]; omega
   have hjl : j < r.length := by omega
   have hq : r[j]? = some r[j] := List.getElem?_eq_getElem hjl
   have hlt : (r[j]).f_To < z.f_From := by
    have hz2 : r[j + 1]? = some z := h'.1
    obtain ⟨hjl2, hz3⟩ := List.getElem?_eq_some_iff.1 hz2
    have := (List.pairwise_iff_getElem.1 hr.1) j (j + 1) hjl hjl2 (by omega)
    rw [hz3] at this
    exact this
   have hql := hlow r[j] (List.getElem_mem hjl)
   have hqlt := hr.2 r[j] (List.getElem_mem hjl)
   rw [decide_eq_true (show ((j + 1 : Nat) : Int) > 0 by omega), hj]
   simp only [cond_true, inr_nat hjl, at_nat hq]
   rw [w64_eq (x := (r[j]).f_To - 1) (by omega) (by omega), decide_eq_false (by omega)]
   rfl
theorem keep_FreeIsPermitted_1_is (r : G_Row) (n : Int) (R : Type) (k : Bool → Int → Option R) : keep_FreeIsPermitted_1 r n k = k (inRow r n) n := by
 simp only [keep_FreeIsPermitted_1, keep_FreeIsPermitted_1_, inRow]
 cases decide (r.f_From ≤ n) <;> rfl
theorem con_free {l : List G_Row} (hl : l.length ≤ 100000) (n : Int) (R : Type) (k : Bool → Int → Option R) : slices_ContainsFunc__Row_keep_FreeIsPermitted_1 l n k = k (l.any fun r => inRow r n) n := by
 simp only [slices_ContainsFunc__Row_keep_FreeIsPermitted_1, slices_ContainsFunc__Row_keep_FreeIsPermitted_1_, I_slices_ContainsFunc__Row_keep_FreeIsPermitted_1, li_slices_IndexFunc__Row_keep_FreeIsPermitted_1]
 rw [sIndexF_is _ (fun r => inRow r n) n l (fun x hx R k => keep_FreeIsPermitted_1_is x n R k) (by have := NN_ok; omega) (by have := NN_ok; omega), idxI_ge]
theorem keep_FreeIsPermitted_true (l : List Int) (R : Type) (k : Bool → Option R) : keep_FreeIsPermitted l k = k true := by
 obtain ⟨x, s1, z1, lx, hx, e1⟩ := Stream_Segments_gives (sOk0 l) (by omega)
 obtain ⟨ul, s2, z2, lu, hu, e2⟩ := Stream_Busies_gives z1 (by omega)
 obtain ⟨w, s3, w1, w2, z3, e3⟩ := Stream_Range_gives z2 1 30 (by omega) (by omega) (by omega) (by omega) (by omega)
 obtain ⟨at0, s4, a1, a2, z4, e4⟩ := Stream_Range_gives z3 0 120 (by omega) (by omega) (by omega) (by omega) (by omega)
 obtain ⟨wish, s5, h1, h2, z5, e5⟩ := Stream_Range_gives z4 0 330 (by omega) (by omega) (by omega) (by omega) (by omega)
 have hcl : ([102, 117, 108, 108] : List UInt8) ∈ classL := by simp [classL]
 have hlx : x.length ≤ 400 := by omega
 have hlu : ul.length ≤ 200 := by omega
 have hwish : outF wish 0 30000000000 1 = 0 := by unfold outF; rw [inB_is.2 ⟨h1, by omega⟩]; rfl
 have hrd : ∀ k : Bool → Option R, keep_ready k = k true := fun k => keep_ready_is R k
 have hp := permL_len [102, 117, 108, 108] 1 at0 x []
 have hlen : (freeL x ul [102, 117, 108, 108] 1 w at0).length ≤ 2000 := Nat.le_trans (shrL_len _ _) (rowsL_len2 (by simp at hp; omega) (by unfold usedBy; rw [List.length_map]; exact Nat.le_trans (List.length_filter_le _ _) (by omega)))
 rcases zero_or (faultFree x ul [102, 117, 108, 108] 1 w at0) with y | y
 ·have z := orL_zero.1 y
  have hgx : faultG x = 0 := z _ (by simp)
  have hg : ∀ s ∈ x, GoodG s := faultG_good hgx
  have hgu : ∀ s ∈ ul, GoodU s := faultU_good (z _ (by simp))
  have ha : momB at0 = true := inB_is.2 ⟨a1, by omega⟩
  obtain ⟨c1, c2, c3⟩ := freeL_can hg hgu [102, 117, 108, 108] w1 (show w ≤ 100000 by omega) at0
  obtain ⟨n1, n2⟩ := nearestL_is wish (freeL x ul [102, 117, 108, 108] 1 w at0)
  generalize hF : freeL x ul [102, 117, 108, 108] 1 w at0 = F at c1 c2 c3 n1 n2 hlen
  have hloop : ∀ (e0 : Bool → Bool → List G_Row → Int → Option R) (e1 : Bool → List G_Row → Int → Option R), keep_FreeIsPermitted_L10 I_keep_FreeIsPermitted NN w at0 wish (nearestL wish 0 false F).2 (F.length : Int) 0 x ul F (nearestL wish 0 false F).1 e0 e1 = e1 (nearestL wish 0 false F).2 F (nearestL wish 0 false F).1 := fun e0 e1 =>
   FP_L10 hx hlx hgx ul hgu (by omega) w1 (show w ≤ 100000 by omega) ha wish (nearestL wish 0 false F).2 F c1 c2 (by omega) (nearestL wish 0 false F).1 (fun z hz h q1 q2 => by
    refine ⟨c3 h (cov_iff.2 ⟨z, hz, q1, q2⟩), ?_⟩
    have g := (n2 (List.ne_nil_of_mem hz)).2 z hz
    have g2 := (clamp_is (c2 z hz) (c1.2 z hz) h1 (show wish ≤ 1000 by omega)).2.2 h q1 q2
    omega) F NN 0 rfl (by have := NN_ok; omega) R e0 e1
  have hcon : F ≠ [] → ∀ k : Bool → Int → Option R, slices_ContainsFunc__Row_keep_FreeIsPermitted_1 F (nearestL wish 0 false F).1 k = k true (nearestL wish 0 false F).1 := fun hne k => by
   obtain ⟨z, hz, ez⟩ := (n2 hne).1
   have g := clamp_is (c2 z hz) (c1.2 z hz) h1 (show wish ≤ 1000 by omega)
   have : (F.any fun r => inRow r (nearestL wish 0 false F).1) = true := List.any_eq_true.2 ⟨z, hz, by rw [ez]; exact inRow_iff.2 ⟨g.1, g.2.1⟩⟩
   rw [← this]
   exact con_free (by omega) _ R k
  simp only [I_keep_FreeIsPermitted] at hloop
  simp only [keep_FreeIsPermitted, keep_FreeIsPermitted_, I_keep_FreeIsPermitted, e1, e2, e3, e4, e5, band_Free_is hx hlx hu hlu hcl, band_Nearest_is hx hlx hu hlu hcl, hF, y, hwish, bne_self_eq_false, cond_false, n1, Bool.not_true, hloop, hrd]
  cases F with
  | nil => rfl
  | cons r rs =>
   have : (nearestL wish 0 false (r :: rs)).2 = true := by
    have := n1
    rw [decide_eq_true (show (((r :: rs).length : Nat) : Int) > 0 by simp)] at this
    simpa using this
   rw [this]
   simp only [Bool.not_true, cond_false, hcon (by simp), cond_true]
 ·simp only [keep_FreeIsPermitted, keep_FreeIsPermitted_, I_keep_FreeIsPermitted, e1, e2, e3, e4, e5, band_Free_is hx hlx hu hlu hcl, band_Nearest_is hx hlx hu hlu hcl, y.1, cond_true, beq_self_eq_true, hrd]
end Go.Am
