/- The plain law, in Lean alone: Pl1, Pl2, Pl3. No condition: lemmas for the claim. -/
import Derived.Test.YthfphbbhjodbcaaGreatDoorF12
set_option linter.unusedVariables false
set_option linter.unusedSimpArgs false
set_option maxRecDepth 100000
namespace Go.Am
open Go Go.Proofs
abbrev NN : Nat := 200000
theorem wr {x : Int} (h1 : -9223372036854775808 ≤ x) (h2 : x ≤ 9223372036854775807) : IntKind.i64.wrap x = x := by
  unfold IntKind.wrap
  simp [IntKind.bits, IntKind.signed]
  omega
theorem F55_gives (x n : Int) (hn : n ≤ 1099511627776) : ∃ r, 0 ≤ r ∧ (1 ≤ n → r < n) ∧ (n < 1 → r = 0) ∧ ∀ (R : Type) (k : Int → Option R), F55 NN x n k = k r := by
  unfold F55 F55_
  by_cases h : n < 1
  · exact ⟨0, Int.le_refl _, fun h' => by omega, fun _ => rfl, fun R k => by simp [h]⟩
  · have h0 : (n == 0) = false := by simp; omega
    have hb1 := Int.tmod_lt_of_pos x (show 0 < n by omega)
    have hb2 : -n < Int.tmod x n := by
      rcases Int.lt_or_le x 0 with hx | hx
      · have h1 := Int.tmod_lt_of_pos (-x) (show 0 < n by omega)
        rw [Int.neg_tmod] at h1
        omega
      · have := Int.tmod_nonneg n hx
        omega
    by_cases h2 : Int.tmod x n < 0
    · refine ⟨Int.tmod x n + n, by omega, fun _ => by omega, fun h' => by omega, fun R k => ?_⟩
      rw [wr (by omega) (by omega)]
      simp [h, h0, h2]
    · exact ⟨Int.tmod x n, by omega, fun _ => hb1, fun h' => by omega, fun R k => by simp [h, h0, h2]⟩
theorem F30_gives (l : List Int) (a n : Int) (ha : 0 ≤ a) (ha2 : a ≤ 1099511627776) (hn : n ≤ 1099511627776) :
    ∃ r, 0 ≤ r ∧ (1 ≤ n → r < n) ∧ ∀ (R : Type) (k : Int → List Int → Int → Option R), F30 NN l a n k = k r l (a + 1) := by
  have e1 : IntKind.i64.wrap (a + 1) = a + 1 := wr (by omega) (by omega)
  have e2 : IntKind.i64.wrap (a + 1 - 1) = a := by rw [wr (by omega) (by omega)]; omega
  unfold F30 F30_
  rw [e1, e2]
  cases l with
  | nil =>
    obtain ⟨r, h1, h2, h3, h4⟩ := F55_gives (IntKind.i64.wrap ((a + 1) * 7919)) n hn
    exact ⟨r, h1, h2, fun R k => by simp [h4]⟩
  | cons x xs =>
    have hlen : (0 : Int) < ((x :: xs).length : Int) := by rw [List.length_cons]; omega
    have hne : (((x :: xs).length : Int) == 0) = false := by rw [beq_eq_false_iff_ne]; omega
    have h0 := Int.tmod_nonneg ((x :: xs).length : Int) ha
    have hlt := Int.tmod_lt_of_pos a hlen
    obtain ⟨y, hy⟩ : ∃ y, (x :: xs)[(Int.tmod a ((x :: xs).length : Int)).toNat]? = some y := ⟨_, List.getElem?_eq_getElem (by omega)⟩
    obtain ⟨r1, _, _, _, g4⟩ := F55_gives y 1073741824 (by omega)
    obtain ⟨r, h1, h2, h3, h4⟩ := F55_gives (IntKind.i64.wrap (r1 + IntKind.i64.wrap (IntKind.i64.wrap (Int.tdiv a ((x :: xs).length : Int)) * IntKind.i64.wrap (7919 + Int.tmod a ((x :: xs).length : Int))))) n hn
    refine ⟨r, h1, h2, fun R k => ?_⟩
    simp only [hne, cond_false, h0, decide_true, cond_true, hy, g4, h4]
theorem F6_gives (l : List Int) (a lo hi : Int) (ha : 0 ≤ a) (ha2 : a ≤ 1099511627776) (h1 : -1099511627776 ≤ lo) (h2 : hi ≤ 1099511627776) (h3 : lo ≤ hi) (h4 : hi - lo ≤ 1099511627775) :
    ∃ r, lo ≤ r ∧ r ≤ hi ∧ ∀ (R : Type) (k : Int → List Int → Int → Option R), F6 NN l a lo hi k = k r l (a + 1) := by
  unfold F6 F6_
  have e : IntKind.i64.wrap (IntKind.i64.wrap (hi - lo) + 1) = hi - lo + 1 := by
    rw [wr (x := hi - lo) (by omega) (by omega), wr (by omega) (by omega)]
  obtain ⟨r, g1, g2, g3⟩ := F30_gives l a (hi - lo + 1) ha ha2 (by omega)
  have := g2 (by omega)
  refine ⟨lo + r, by omega, by omega, fun R k => ?_⟩
  have hd : decide (hi < lo) = false := by simp; omega
  simp only [hd, cond_false, e, g3]
  rw [wr (by omega) (by omega)]
theorem F7_gives (l : List Int) (a : Int) (xs : List Int) (ha : 0 ≤ a) (ha2 : a ≤ 1099511627776) (hx : xs ≠ []) (hl : xs.length ≤ 1000) :
    ∃ r ∈ xs, ∀ (R : Type) (k : Int → List Int → Int → Option R), F7 NN l a xs k = k r l (a + 1) := by
  unfold F7 F7_
  obtain ⟨r, g1, g2, g3⟩ := F30_gives l a (xs.length : Int) ha ha2 (by omega)
  have hpos : 0 < xs.length := List.length_pos_iff.2 hx
  have := g2 (by omega)
  have hlt : r.toNat < xs.length := by omega
  refine ⟨xs[r.toNat], List.getElem_mem hlt, fun R k => ?_⟩
  simp only [g3, g1, decide_true, cond_true, List.getElem?_eq_getElem hlt]
theorem F52_gives (l : List Int) (a : Int) (xs : List (List UInt8)) (ha : 0 ≤ a) (ha2 : a ≤ 1099511627776) (hx : xs ≠ []) (hl : xs.length ≤ 1000) :
    ∃ r ∈ xs, ∀ (R : Type) (k : List UInt8 → List Int → Int → Option R), F52 NN l a xs k = k r l (a + 1) := by
  unfold F52 F52_
  obtain ⟨r, g1, g2, g3⟩ := F30_gives l a (xs.length : Int) ha ha2 (by omega)
  have hpos : 0 < xs.length := List.length_pos_iff.2 hx
  have := g2 (by omega)
  have hlt : r.toNat < xs.length := by omega
  refine ⟨xs[r.toNat], List.getElem_mem hlt, fun R k => ?_⟩
  simp only [g3, g1, decide_true, cond_true, List.getElem?_eq_getElem hlt]
theorem F8_gives (l : List Int) (a n : Int) (ha : 0 ≤ a) (ha2 : a ≤ 1099511627776) (hn : n ≤ 1099511627776) :
    ∃ b, ∀ (R : Type) (k : Bool → List Int → Int → Option R), F8 NN l a n k = k b l (a + 1) := by
  unfold F8 F8_
  obtain ⟨r, g1, g2, g3⟩ := F30_gives l a n ha ha2 hn
  exact ⟨r == 0, fun R k => by simp only [g3]⟩
def callsL : List (List UInt8) := [[], [107, 49], [75, 49, 65, 66], [107, 49, 97, 98, 47], [49, 97], [107, 49, 97, 98, 47, 109, 109, 47, 112], [107, 49, 97, 98], [107, 49, 97, 97], [107, 49, 97, 98, 47, 52], [111, 104, 50, 97, 98, 99], [111, 104, 50, 97, 98, 100], [119, 49, 97, 119], [110, 49, 109, 109], [103, 51, 120, 121, 122, 47, 112]]
def keysL : List (List UInt8) := [[98, 50, 48], [98, 52, 48], [], [66], [102, 105, 110], [117, 115, 97], [65], [49]]
theorem F53_gives (l : List Int) (a : Int) (ha : 0 ≤ a) (ha2 : a ≤ 1099511627000) :
    ∃ s ∈ callsL, ∀ (R : Type) (k : List UInt8 → List Int → Int → Option R), F53 NN l a k = k s l (a + 2) := by
  unfold F53 F53_
  obtain ⟨b, hb⟩ := F8_gives l a 60 ha (by omega) (by omega)
  cases b with
  | true =>
    obtain ⟨r, hr, h⟩ := F52_gives l (a + 1) [[], [107, 49], [75, 49, 65, 66], [107, 49, 97, 98, 47], [49, 97], [107, 49, 97, 98, 47, 109, 109, 47, 112]] (by omega) (by omega) (by simp) (by simp)
    refine ⟨r, ?_, fun R k => by simp only [hb, cond_true, h]; congr 1; omega⟩
    simp only [callsL, List.mem_cons, List.not_mem_nil, or_false] at hr ⊢
    rcases hr with h | h | h | h | h | h <;> simp [h]
  | false =>
    obtain ⟨r, hr, h⟩ := F52_gives l (a + 1) [[107, 49, 97, 98], [107, 49, 97, 97], [107, 49, 97, 98, 47, 52], [111, 104, 50, 97, 98, 99], [111, 104, 50, 97, 98, 100], [119, 49, 97, 119], [110, 49, 109, 109], [103, 51, 120, 121, 122, 47, 112]] (by omega) (by omega) (by simp) (by simp)
    refine ⟨r, ?_, fun R k => by simp only [hb, cond_false, h]; congr 1; omega⟩
    simp only [callsL, List.mem_cons, List.not_mem_nil, or_false] at hr ⊢
    rcases hr with h | h | h | h | h | h | h | h <;> simp [h]
theorem F54_gives (l : List Int) (a lo hi : Int) (ha : 0 ≤ a) (ha2 : a ≤ 1099511627000) (h1 : 0 ≤ lo) (h2 : hi ≤ 1000000) (h3 : lo ≤ hi) :
    ∃ r, -1099511627776 ≤ r ∧ r ≤ 1099511627776 ∧ ∀ (R : Type) (k : Int → List Int → Int → Option R), F54 NN l a lo hi k = k r l (a + 2) := by
  unfold F54 F54_
  obtain ⟨b, hb⟩ := F8_gives l a 12 ha (by omega) (by omega)
  cases b with
  | true =>
    obtain ⟨r, hr, h⟩ := F7_gives l (a + 1) [IntKind.i64.wrap (lo - 1), IntKind.i64.wrap (hi + 1), lo, hi, -1099511627776, 1099511627776] (by omega) (by omega) (by simp) (by simp)
    have e1 : IntKind.i64.wrap (lo - 1) = lo - 1 := wr (by omega) (by omega)
    have e2 : IntKind.i64.wrap (hi + 1) = hi + 1 := wr (by omega) (by omega)
    rw [e1, e2] at h hr
    refine ⟨r, ?_, ?_, fun R k => by simp only [hb, cond_true, e1, e2, h]; congr 1; omega⟩
    all_goals
      simp only [List.mem_cons, List.not_mem_nil, or_false] at hr
      omega
  | false =>
    obtain ⟨r, g1, g2, h⟩ := F6_gives l (a + 1) lo hi (by omega) (by omega) (by omega) (by omega) h3 (by omega)
    exact ⟨r, by omega, by omega, fun R k => by simp only [hb, cond_false, h]; congr 1; omega⟩
structure Fine (c : G_Contact) : Prop where
  at1 : -1099511627776 ≤ c.f_At ∧ c.f_At ≤ 1099511627776
  mode : -1099511627776 ≤ c.f_Mode ∧ c.f_Mode ≤ 1099511627776
  sent : -1099511627776 ≤ c.f_Sent ∧ c.f_Sent ≤ 1099511627776
  heard : -1099511627776 ≤ c.f_Heard ∧ c.f_Heard ≤ 1099511627776
  band : c.f_Band ∈ keysL
  call : c.f_Call ∈ callsL
  gave : c.f_Gave ∈ keysL
  got : c.f_Got ∈ keysL
theorem F28_gives (l : List Int) (a at0 : Int) (ha : 0 ≤ a) (ha2 : a ≤ 1099511626000) (h1 : 0 ≤ at0) (h2 : at0 ≤ 1000000000) :
    ∃ c : G_Contact, Fine c ∧ ∃ a', a ≤ a' ∧ a' ≤ a + 30 ∧ ∀ (R : Type) (k : Int → Int → List UInt8 → List UInt8 → Int → Int → List UInt8 → List UInt8 → List Int → Int → Option R),
      F28 NN l a at0 k = k c.f_At c.f_Mode c.f_Band c.f_Call c.f_Sent c.f_Heard c.f_Gave c.f_Got l a' := by
  unfold F28 F28_
  obtain ⟨m, hm, em⟩ := F7_gives l a [1, 1, 2, 3] ha (by omega) (by simp) (by simp)
  obtain ⟨b, hb, eb⟩ := F52_gives l (a + 1) [[98, 50, 48], [98, 50, 48], [98, 52, 48]] (by omega) (by omega) (by simp) (by simp)
  obtain ⟨c, hc, ec⟩ := F53_gives l (a + 1 + 1) (by omega) (by omega)
  obtain ⟨s, hs, es⟩ := F7_gives l (a + 1 + 1 + 2) [0, 1, 2, 3, 4, 5, 6, 7] (by omega) (by omega) (by simp) (by simp)
  obtain ⟨h, hh, eh⟩ := F7_gives l (a + 1 + 1 + 2 + 1) [0, 1, 2, 9] (by omega) (by omega) (by simp) (by simp)
  obtain ⟨g, hg, eg⟩ := F52_gives l (a + 1 + 1 + 2 + 1 + 1) [[], [], [102, 105, 110]] (by omega) (by omega) (by simp) (by simp)
  obtain ⟨o, ho, eo⟩ := F52_gives l (a + 1 + 1 + 2 + 1 + 1 + 1) [[], [], [117, 115, 97]] (by omega) (by omega) (by simp) (by simp)
  obtain ⟨f, ef⟩ := F8_gives l (a + 1 + 1 + 2 + 1 + 1 + 1 + 1) 100 (by omega) (by omega) (by omega)
  have kb : b ∈ keysL := by simp only [keysL, List.mem_cons, List.not_mem_nil, or_false] at hb ⊢; rcases hb with h | h | h <;> simp [h]
  have kg : g ∈ keysL := by simp only [keysL, List.mem_cons, List.not_mem_nil, or_false] at hg ⊢; rcases hg with h | h | h <;> simp [h]
  have ko : o ∈ keysL := by simp only [keysL, List.mem_cons, List.not_mem_nil, or_false] at ho ⊢; rcases ho with h | h | h <;> simp [h]
  simp only [List.mem_cons, List.not_mem_nil, or_false] at hm hs hh
  cases f with
  | false => exact ⟨⟨at0, m, b, c, s, h, g, o⟩, ⟨by simp only; omega, by simp only; omega, by simp only; omega, by simp only; omega, kb, hc, kg, ko⟩, a + 1 + 1 + 2 + 1 + 1 + 1 + 1 + 1, by omega, by omega, fun R k => by simp only [em, eb, ec, es, eh, eg, eo, ef, cond_false]⟩
  | true =>
    obtain ⟨q, q1, q2, eq⟩ := F30_gives l (a + 1 + 1 + 2 + 1 + 1 + 1 + 1 + 1) 4 (by omega) (by omega) (by omega)
    by_cases c0 : q = 0
    · obtain ⟨x, x1, x2, ex⟩ := F54_gives l (a + 1 + 1 + 2 + 1 + 1 + 1 + 1 + 1 + 1) 0 500 (by omega) (by omega) (by omega) (by omega) (by omega)
      obtain ⟨y, y1, y2, ey⟩ := F54_gives l (a + 1 + 1 + 2 + 1 + 1 + 1 + 1 + 1 + 1 + 2) 1 3 (by omega) (by omega) (by omega) (by omega) (by omega)
      exact ⟨⟨x, y, b, c, s, h, g, o⟩, ⟨⟨x1, x2⟩, ⟨y1, y2⟩, by simp only; omega, by simp only; omega, kb, hc, kg, ko⟩, a + 1 + 1 + 2 + 1 + 1 + 1 + 1 + 1 + 1 + 2 + 2, by omega, by omega, fun R k => by simp only [em, eb, ec, es, eh, eg, eo, ef, cond_true, eq, c0, beq_self_eq_true, ex, ey]⟩
    · have c0' : (q == 0) = false := by simpa using c0
      by_cases c1 : q = 1
      · obtain ⟨x, hx, ex⟩ := F52_gives l (a + 1 + 1 + 2 + 1 + 1 + 1 + 1 + 1 + 1) [[], [66], [98, 50, 48]] (by omega) (by omega) (by simp) (by simp)
        have kx : x ∈ keysL := by simp only [keysL, List.mem_cons, List.not_mem_nil, or_false] at hx ⊢; rcases hx with h | h | h <;> simp [h]
        exact ⟨⟨at0, m, x, c, s, h, g, o⟩, ⟨by simp only; omega, by simp only; omega, by simp only; omega, by simp only; omega, kx, hc, kg, ko⟩, a + 1 + 1 + 2 + 1 + 1 + 1 + 1 + 1 + 1 + 1, by omega, by omega, fun R k => by simp only [em, eb, ec, es, eh, eg, eo, ef, cond_true, eq, c0', cond_false, c1, beq_self_eq_true, ex]; rfl⟩
      · have c1' : (q == 1) = false := by simpa using c1
        by_cases c2 : q = 2
        · obtain ⟨x, x1, x2, ex⟩ := F54_gives l (a + 1 + 1 + 2 + 1 + 1 + 1 + 1 + 1 + 1) 0 99999 (by omega) (by omega) (by omega) (by omega) (by omega)
          obtain ⟨y, y1, y2, ey⟩ := F54_gives l (a + 1 + 1 + 2 + 1 + 1 + 1 + 1 + 1 + 1 + 2) 0 99999 (by omega) (by omega) (by omega) (by omega) (by omega)
          exact ⟨⟨at0, m, b, c, x, y, g, o⟩, ⟨by simp only; omega, by simp only; omega, ⟨x1, x2⟩, ⟨y1, y2⟩, kb, hc, kg, ko⟩, a + 1 + 1 + 2 + 1 + 1 + 1 + 1 + 1 + 1 + 2 + 2, by omega, by omega, fun R k => by simp only [em, eb, ec, es, eh, eg, eo, ef, cond_true, eq, c0', c1', cond_false, c2, beq_self_eq_true, ex, ey]; rfl⟩
        · have c2' : (q == 2) = false := by simpa using c2
          obtain ⟨x, hx, ex⟩ := F52_gives l (a + 1 + 1 + 2 + 1 + 1 + 1 + 1 + 1 + 1) [[], [65]] (by omega) (by omega) (by simp) (by simp)
          obtain ⟨y, hy, ey⟩ := F52_gives l (a + 1 + 1 + 2 + 1 + 1 + 1 + 1 + 1 + 1 + 1) [[49], [117, 115, 97]] (by omega) (by omega) (by simp) (by simp)
          have kx : x ∈ keysL := by simp only [keysL, List.mem_cons, List.not_mem_nil, or_false] at hx ⊢; rcases hx with h | h <;> simp [h]
          have ky : y ∈ keysL := by simp only [keysL, List.mem_cons, List.not_mem_nil, or_false] at hy ⊢; rcases hy with h | h <;> simp [h]
          exact ⟨⟨at0, m, b, c, s, h, x, y⟩, ⟨by simp only; omega, by simp only; omega, by simp only; omega, by simp only; omega, kb, hc, kx, ky⟩, a + 1 + 1 + 2 + 1 + 1 + 1 + 1 + 1 + 1 + 1 + 1, by omega, by omega, fun R k => by simp only [em, eb, ec, es, eh, eg, eo, ef, cond_true, eq, c0', c1', c2', cond_false, ex, ey]⟩
end Go.Am
namespace Go.Am
open Go Go.Proofs
def sgn (x : Int) : Int := bif decide (x < 0) then -1 else bif decide (x > 0) then 1 else 0
theorem F73_is (x : Int) (R : Type) (k : Int → Option R) : F73 NN x k = k (sgn x) := by
  unfold F73 F73_ sgn
  cases decide (x < 0) <;> cases decide (x > 0) <;> rfl
theorem F74_is (a b : List UInt8) (R : Type) (k : Int → Option R) : F74 NN a b k = k (Lib.compareBytes a b) := rfl
def ordC (x y : G_Contact) : Int :=
  bif x.f_At != y.f_At then sgn (IntKind.i64.wrap (x.f_At - y.f_At)) else bif !(x.f_Call == y.f_Call) then Lib.compareBytes x.f_Call y.f_Call
  else bif !(x.f_Band == y.f_Band) then Lib.compareBytes x.f_Band y.f_Band else sgn (IntKind.i64.wrap (x.f_Mode - y.f_Mode))
theorem F39_is (x y : G_Contact) (R : Type) (k : Int → Option R) :
    F39 NN x.f_At x.f_Mode x.f_Band x.f_Call x.f_Sent x.f_Heard x.f_Gave x.f_Got y.f_At y.f_Mode y.f_Band y.f_Call y.f_Sent y.f_Heard y.f_Gave y.f_Got k = k (ordC x y) := by
  unfold F39 F39_ ordC
  simp only [F73_is, F74_is]
  cases x.f_At != y.f_At <;> cases !(x.f_Call == y.f_Call) <;> cases !(x.f_Band == y.f_Band) <;> rfl
theorem F41_is (x y : G_Contact) (R : Type) (k : Bool → Option R) :
    F41 NN x.f_At x.f_Mode x.f_Band x.f_Call x.f_Sent x.f_Heard x.f_Gave x.f_Got y.f_At y.f_Mode y.f_Band y.f_Call y.f_Sent y.f_Heard y.f_Gave y.f_Got k = k (ordC x y == 0) := by
  unfold F41 F41_
  simp only [F39_is]
def cmpI (a b : Int) : Int := bif decide (a < b) then -1 else bif decide (a > b) then 1 else 0
theorem F80_is (a b : Int) (R : Type) (k : Int → Option R) : F80 NN a b k = k (cmpI a b) := by
  unfold F80 F80_ F94 F94_ cmpI
  have h1 : (a != a) = false := by simp
  have h2 : (b != b) = false := by simp
  simp only [h1, h2, cond_false]
  cases decide (a < b) <;> cases decide (a > b) <;> rfl
def or4 (a b c d : Int) : Int := bif a != 0 then a else bif b != 0 then b else bif c != 0 then c else bif d != 0 then d else 0
theorem F79_x (a b c d : Int) (R : Type) (k : Int → Option R) : F79 NN [a, b, c, d] k = bif a != 0 then k a else bif b != 0 then k b else bif c != 0 then k c else bif d != 0 then k d else k 0 := by kernel_rfl
theorem F79_is (a b c d : Int) (R : Type) (k : Int → Option R) : F79 NN [a, b, c, d] k = k (or4 a b c d) := by
  rw [F79_x]
  unfold or4
  cases a != 0 <;> cases b != 0 <;> cases c != 0 <;> cases d != 0 <;> rfl
def cmpC (x y : G_Contact) : Int := or4 (cmpI x.f_At y.f_At) (Lib.compareBytes x.f_Call y.f_Call) (Lib.compareBytes x.f_Band y.f_Band) (cmpI x.f_Mode y.f_Mode)
theorem F58_is (x y : G_Contact) (R : Type) (k : Int → Option R) :
    F58 NN x.f_At x.f_Mode x.f_Band x.f_Call x.f_Sent x.f_Heard x.f_Gave x.f_Got y.f_At y.f_Mode y.f_Band y.f_Call y.f_Sent y.f_Heard y.f_Gave y.f_Got k = k (cmpC x y) := by
  unfold F58 F58_ cmpC
  simp only [F80_is, F74_is, F79_is]
theorem cb_self : ∀ l : List UInt8, Lib.compareBytes l l = 0
  | [] => rfl
  | x :: xs => by unfold Lib.compareBytes; simp [cb_self xs]
theorem cb_zero : ∀ a b : List UInt8, Lib.compareBytes a b = 0 → a = b
  | [], [], _ => rfl
  | [], _ :: _, h => by simp [Lib.compareBytes] at h
  | _ :: _, [], h => by simp [Lib.compareBytes] at h
  | x :: xs, y :: ys, h => by
    unfold Lib.compareBytes at h
    split at h
    · cases h
    · split at h
      · cases h
      · rename_i h1 h2
        have : x = y := by
          have e1 : ¬ x.toNat < y.toNat := by simpa [UInt8.lt_iff_toNat_lt] using h1
          have e2 : ¬ y.toNat < x.toNat := by simpa [UInt8.lt_iff_toNat_lt] using h2
          exact UInt8.toNat_inj.1 (by omega)
        rw [this, cb_zero xs ys h]
theorem sgn_cmp {a b : Int} (ha : -1099511627776 ≤ a ∧ a ≤ 1099511627776) (hb : -1099511627776 ≤ b ∧ b ≤ 1099511627776) : sgn (IntKind.i64.wrap (a - b)) = cmpI a b := by
  rw [wr (by omega) (by omega)]
  unfold sgn cmpI
  by_cases h1 : a < b
  · have : a - b < 0 := by omega
    simp [h1, this]
  · have g1 : ¬ a - b < 0 := by omega
    by_cases h2 : a > b
    · have : a - b > 0 := by omega
      simp [h1, h2, g1, this]
    · have : ¬ a - b > 0 := by omega
      simp [h1, h2, g1, this]
theorem cmpI_zero {a b : Int} : cmpI a b = 0 ↔ a = b := by
  unfold cmpI
  by_cases h1 : a < b
  · simp [h1]; omega
  · by_cases h2 : a > b
    · simp [h1, h2]; omega
    · simp [h1, h2]; omega
theorem ord_cmp {x y : G_Contact} (hx : Fine x) (hy : Fine y) : ordC x y = cmpC x y := by
  unfold ordC cmpC or4
  by_cases h1 : x.f_At = y.f_At
  · have e1 : cmpI x.f_At y.f_At = 0 := cmpI_zero.2 h1
    have e1' : (x.f_At != y.f_At) = false := by simp [h1]
    rw [e1, e1']
    simp only [cond_false, bne_self_eq_false]
    by_cases h2 : x.f_Call = y.f_Call
    · rw [h2, cb_self]
      simp only [beq_self_eq_true, Bool.not_true, cond_false, bne_self_eq_false]
      by_cases h3 : x.f_Band = y.f_Band
      · rw [h3, cb_self]
        simp only [beq_self_eq_true, Bool.not_true, cond_false, bne_self_eq_false]
        rw [sgn_cmp hx.mode hy.mode]
        by_cases h4 : cmpI x.f_Mode y.f_Mode = 0
        · simp [h4]
        · have : (cmpI x.f_Mode y.f_Mode != 0) = true := by simpa using h4
          rw [this]; rfl
      · have e : (x.f_Band == y.f_Band) = false := by simpa using h3
        have e2 : (Lib.compareBytes x.f_Band y.f_Band != 0) = true := by simpa using fun h => h3 (cb_zero _ _ h)
        rw [e, e2]; rfl
    · have e : (x.f_Call == y.f_Call) = false := by simpa using h2
      have e2 : (Lib.compareBytes x.f_Call y.f_Call != 0) = true := by simpa using fun h => h2 (cb_zero _ _ h)
      rw [e, e2]; rfl
  · have e : (x.f_At != y.f_At) = true := by simpa using h1
    have e2 : (cmpI x.f_At y.f_At != 0) = true := by simpa using fun h => h1 (cmpI_zero.1 h)
    rw [e, e2, sgn_cmp hx.at1 hy.at1]; rfl
end Go.Am
namespace Go.Am
open Go Go.Proofs
theorem mem_set {α : Type} {l : List α} {i : Nat} {x y : α} (h : x ∈ l.set i y) : x ∈ l ∨ x = y := List.mem_or_eq_of_mem_set h
theorem ins_inner (b i : Int) : ∀ (n j : Nat) (d : List G_Contact), j < n → (j = 0 ∨ j < d.length) → d.length ≤ 1000000 →
    ∃ r : List G_Contact, r.length = d.length ∧ (∀ x ∈ r, x ∈ d) ∧ ∀ (R : Type) (e0 : Int → Int → Int → List G_Contact → Option R), L86_4 (@F39 NN) NN n 0 b i (j : Int) d e0 = e0 0 b i r
  | 0, j, d, h, _, _ => by omega
  | n + 1, 0, d, _, _, _ => ⟨d, rfl, fun x h => h, fun R e0 => by rw [L86_4]; simp⟩
  | n + 1, m + 1, d, h, hj, hl => by
    have hm : m + 1 < d.length := by omega
    have e1 : IntKind.i64.wrap (((m + 1 : Nat) : Int) - 1) = (m : Int) := by rw [wr (by omega) (by omega)]; omega
    have d1 : decide (((m + 1 : Nat) : Int) > 0) = true := by rw [decide_eq_true_eq]; omega
    have d2 : (decide (0 ≤ ((m + 1 : Nat) : Int)) && decide (((m + 1 : Nat) : Int) < (d.length : Int))) = true := by simp; omega
    have d3 : (decide (0 ≤ (m : Int)) && decide ((m : Int) < (d.length : Int))) = true := by simp; omega
    have g1 : d[(((m + 1 : Nat) : Int)).toNat]? = some d[m + 1] := by rw [Int.toNat_natCast]; exact List.getElem?_eq_getElem hm
    have g2 : d[((m : Int)).toNat]? = some d[m] := by rw [Int.toNat_natCast]; exact List.getElem?_eq_getElem (by omega)
    by_cases hc : ordC d[m + 1] d[m] < 0
    · let d' := (d.set (m + 1) d[m]).set m d[m + 1]
      obtain ⟨r, h1, h2, h3⟩ := ins_inner b i n m d' (by omega) (by simp [d']; omega) (by simp [d']; omega)
      refine ⟨r, by simpa [d'] using h1, fun x hx => ?_, fun R e0 => ?_⟩
      · rcases mem_set (h2 x hx) with h | h
        · rcases mem_set h with h | h
          · exact h
          · rw [h]; exact List.getElem_mem _
        · rw [h]; exact List.getElem_mem _
      · have hc' : decide (ordC d[m + 1] d[m] < 0) = true := by simpa using hc
        have d4 : (decide (0 ≤ (m : Int)) && decide ((m : Int) < ((d.set (((m + 1 : Nat) : Int)).toNat d[m]).length : Int))) = true := by simp; omega
        have g3 : (d.set (((m + 1 : Nat) : Int)).toNat d[m])[((m : Int)).toNat]? = some d[m] := by
          rw [Int.toNat_natCast, Int.toNat_natCast, List.getElem?_set_ne (by omega)]; exact List.getElem?_eq_getElem (by omega)
        rw [L86_4]
        simp only [d1, cond_true, d2, g1, e1, d3, g2, F39_is, hc', d4, g3]
        rw [Int.toNat_natCast, Int.toNat_natCast]
        exact h3 R e0
    · refine ⟨d, rfl, fun x h => h, fun R e0 => ?_⟩
      have hc' : decide (ordC d[m + 1] d[m] < 0) = false := by simpa using hc
      rw [L86_4]
      simp only [d1, cond_true, d2, g1, e1, d3, g2, F39_is, hc', cond_false]
theorem ins_outer : ∀ (n i : Nat) (d : List G_Contact), d.length - i < n → 1 ≤ i → d.length ≤ 100000 →
    ∃ r : List G_Contact, r.length = d.length ∧ (∀ x ∈ r, x ∈ d) ∧ ∀ (R : Type) (e0 : List G_Contact → Option R), L86_1 (@F39 NN) NN n 0 (d.length : Int) (i : Int) d e0 = e0 r
  | 0, i, d, h, _, _ => by omega
  | n + 1, i, d, h, hi, hl => by
    by_cases hc : i < d.length
    · obtain ⟨r, h1, h2, h3⟩ := ins_inner (d.length : Int) (i : Int) NN i d (by unfold NN; omega) (.inr hc) (by omega)
      obtain ⟨r2, g1, g2, g3⟩ := ins_outer n (i + 1) r (by omega) (by omega) (by omega)
      refine ⟨r2, by omega, fun x hx => h2 x (g2 x hx), fun R e0 => ?_⟩
      have d1 : decide ((i : Int) < (d.length : Int)) = true := by simpa using hc
      rw [L86_1]
      simp only [d1, cond_true, h3]
      have e1 : IntKind.i64.wrap ((i : Int) + 1) = ((i + 1 : Nat) : Int) := by rw [wr (by omega) (by omega)]; omega
      rw [e1, ← h1]
      exact g3 R e0
    · refine ⟨d, rfl, fun x h => h, fun R e0 => ?_⟩
      have d1 : decide ((i : Int) < (d.length : Int)) = false := by simp; omega
      rw [L86_1]
      simp only [d1, cond_false]
theorem F86_gives (d : List G_Contact) (hl : d.length ≤ 100000) : ∃ r : List G_Contact, r.length = d.length ∧ (∀ x ∈ r, x ∈ d) ∧ ∀ (R : Type) (k : List G_Contact → Option R), F86 NN d 0 (d.length : Int) k = k r := by
  obtain ⟨r, h1, h2, h3⟩ := ins_outer NN 1 d (by unfold NN; omega) (by omega) hl
  refine ⟨r, h1, h2, fun R k => ?_⟩
  unfold F86 F86_
  have e1 : IntKind.i64.wrap ((0 : Int) + 1) = ((1 : Nat) : Int) := by rw [wr (by omega) (by omega)]; rfl
  rw [e1]
  exact h3 R _
theorem F38_gives (d : List G_Contact) (hl : d.length ≤ 19) : ∃ r : List G_Contact, r.length = d.length ∧ (∀ x ∈ r, x ∈ d) ∧ ∀ (R : Type) (k : List G_Contact → Option R), F38 NN d k = k r := by
  obtain ⟨r, h1, h2, h3⟩ := F86_gives d (by omega)
  refine ⟨r, h1, h2, fun R k => ?_⟩
  have d1 : decide ((20 : Int) ≤ (d.length : Int)) = false := by simp; omega
  have d2 : decide ((20 : Int) < (d.length : Int)) = false := by simp; omega
  unfold F38 F38_ F72 F72_
  show L72_2 (@F86 NN) (@F87 NN) NN (199999 + 1) _ _ _ _ _ _ = _
  rw [L72_2]
  simp only [d1, cond_false, h3]
  show L72_7 (@F86 NN) (@F87 NN) NN (199999 + 1) _ _ _ _ = _
  rw [L72_7]
  simp only [d2, cond_false]
theorem comp_inner (d : List G_Contact) (lo : Nat) : ∀ (n k k2 : Nat) (l : List G_Contact), l.length = d.length → (∀ x ∈ l, x ∈ d) → d.length - (lo + k2) < n → 1 ≤ k2 → k + 1 ≤ lo + k2 → lo + k2 ≤ d.length → d.length ≤ 100000 →
    ∃ k' : Nat, ∃ r : List G_Contact, k' ≤ d.length ∧ r.length = d.length ∧ (∀ x ∈ r, x ∈ d) ∧ ∀ (R : Type) (e0 : Int → List G_Contact → Option R), L40_9 (@F41 NN) NN n (k : Int) (lo : Int) (d.length : Int) (k2 : Int) l e0 = e0 (k' : Int) r
  | 0, k, k2, l, _, _, h, _, _, _, _ => by omega
  | n + 1, k, k2, l, hl, hmem, h, h2, h3, h4, h5 => by
    by_cases hc : lo + k2 < d.length
    · have e0' : ((d.length : Int) - (lo : Int)).toNat = d.length - lo := by omega
      have d1 : decide ((k2 : Int) < (((d.length : Int) - (lo : Int)).toNat : Int)) = true := by rw [e0']; simp; omega
      have d2 : (decide (0 ≤ (k2 : Int)) && (decide ((k2 : Int) < (d.length : Int) - (lo : Int)) && decide ((lo : Int) + (k2 : Int) < (l.length : Int)))) = true := by simp; omega
      have e1 : IntKind.i64.wrap ((k2 : Int) - 1) = ((k2 - 1 : Nat) : Int) := by rw [wr (by omega) (by omega)]; omega
      have d3 : (decide (0 ≤ ((k2 - 1 : Nat) : Int)) && (decide (((k2 - 1 : Nat) : Int) < (d.length : Int) - (lo : Int)) && decide ((lo : Int) + ((k2 - 1 : Nat) : Int) < (l.length : Int)))) = true := by simp; omega
      have t1 : ((lo : Int) + (k2 : Int)).toNat = lo + k2 := by omega
      have t2 : ((lo : Int) + ((k2 - 1 : Nat) : Int)).toNat = lo + (k2 - 1) := by omega
      have g1 : l[lo + k2]? = some l[lo + k2] := List.getElem?_eq_getElem (by omega)
      have g2 : l[lo + (k2 - 1)]? = some l[lo + (k2 - 1)] := List.getElem?_eq_getElem (by omega)
      have e2 : IntKind.i64.wrap ((k2 : Int) + 1) = ((k2 + 1 : Nat) : Int) := by rw [wr (by omega) (by omega)]; omega
      have e3 : IntKind.i64.wrap ((k : Int) + 1) = ((k + 1 : Nat) : Int) := by rw [wr (by omega) (by omega)]; omega
      have d4 : (decide (0 ≤ (k : Int)) && decide ((k : Int) < (l.length : Int))) = true := by simp; omega
      have g3 : l[((k : Int)).toNat]? = some l[k] := by rw [Int.toNat_natCast]; exact List.getElem?_eq_getElem (by omega)
      cases hq : ordC l[lo + k2] l[lo + (k2 - 1)] == 0 with
      | true =>
        obtain ⟨k', r, a1, a2, a3, a4⟩ := comp_inner d lo n k (k2 + 1) l hl hmem (by omega) (by omega) (by omega) (by omega) h5
        refine ⟨k', r, a1, a2, a3, fun R e0 => ?_⟩
        rw [L40_9]
        simp only [d1, cond_true, d2, t1, g1, e1, d3, t2, g2, F41_is, hq, Bool.not_true, cond_false, e2]
        exact a4 R e0
      | false =>
        obtain ⟨k', r, a1, a2, a3, a4⟩ := comp_inner d lo n (k + 1) (k2 + 1) (l.set k l[lo + k2]) (by simpa using hl) (fun x hx => by
          rcases mem_set hx with h | h
          · exact hmem x h
          · rw [h]; exact hmem _ (List.getElem_mem _)) (by omega) (by omega) (by omega) (by omega) h5
        refine ⟨k', r, a1, a2, a3, fun R e0 => ?_⟩
        rw [L40_9]
        simp only [d1, cond_true, d2, t1, g1, e1, d3, t2, g2, F41_is, hq, Bool.not_false, e2, e3, d4, g3]
        rw [Int.toNat_natCast]
        exact a4 R e0
    · have e0' : ((d.length : Int) - (lo : Int)).toNat = d.length - lo := by omega
      have d1 : decide ((k2 : Int) < (((d.length : Int) - (lo : Int)).toNat : Int)) = false := by rw [e0']; simp; omega
      refine ⟨k, l, by omega, hl, hmem, fun R e0 => ?_⟩
      rw [L40_9]
      simp only [d1, cond_false]
theorem comp_outer : ∀ (n i : Nat) (d : List G_Contact), d.length - i < n → 1 ≤ i → i ≤ d.length → d.length ≤ 100000 →
    ∃ r : List G_Contact, r.length ≤ d.length ∧ (∀ x ∈ r, x ∈ d) ∧ ∀ (R : Type) (k : List G_Contact → Option R), L40_4 (@F41 NN) NN n (i : Int) d k k = k r
  | 0, i, d, h, _, _, _ => by omega
  | n + 1, i, d, h, hi, hil, hl => by
    by_cases hc : i < d.length
    · have d1 : decide ((i : Int) < (d.length : Int)) = true := by simpa using hc
      have d2 : (decide (0 ≤ (i : Int)) && decide ((i : Int) < (d.length : Int))) = true := by simp; omega
      have e1 : IntKind.i64.wrap ((i : Int) - 1) = ((i - 1 : Nat) : Int) := by rw [wr (by omega) (by omega)]; omega
      have d3 : (decide (0 ≤ ((i - 1 : Nat) : Int)) && decide (((i - 1 : Nat) : Int) < (d.length : Int))) = true := by simp; omega
      have g1 : d[((i : Int)).toNat]? = some d[i] := by rw [Int.toNat_natCast]; exact List.getElem?_eq_getElem hc
      have g2 : d[(((i - 1 : Nat) : Int)).toNat]? = some d[i - 1] := by rw [Int.toNat_natCast]; exact List.getElem?_eq_getElem (by omega)
      have e2 : IntKind.i64.wrap ((i : Int) + 1) = ((i + 1 : Nat) : Int) := by rw [wr (by omega) (by omega)]; omega
      cases hq : ordC d[i] d[i - 1] == 0 with
      | false =>
        obtain ⟨r, a1, a2, a3⟩ := comp_outer n (i + 1) d (by omega) (by omega) (by omega) hl
        refine ⟨r, a1, a2, fun R k => ?_⟩
        rw [L40_4]
        simp only [d1, cond_true, d2, g1, e1, d3, g2, F41_is, hq, cond_false, e2]
        exact a3 R k
      | true =>
        obtain ⟨k', l, b1, b2, b3, b4⟩ := comp_inner d i NN i 1 d rfl (fun x h => h) (by unfold NN; omega) (by omega) (by omega) (by omega) hl
        refine ⟨l.take k', by simp; omega, fun x hx => b3 x (List.mem_of_mem_take hx), fun R k => ?_⟩
        have d4 : (decide (0 < d.length) && (decide (0 ≤ (i : Int)) && decide ((i : Int) ≤ (d.length : Int)))) = true := by simp; omega
        have d5 : (decide (0 < l.length) && (decide (0 ≤ (k' : Int)) && decide ((k' : Int) ≤ (l.length : Int)))) = true := by simp; omega
        have d6 : (decide (0 ≤ (k' : Int)) && (decide ((k' : Int) ≤ (l.length : Int)) && decide (((l.length : Int)).toNat ≤ l.length))) = true := by simp; omega
        rw [L40_4]
        simp only [d1, cond_true, d2, g1, e1, d3, g2, F41_is, hq, d4]
        have b4' : ∀ e0 : Int → List G_Contact → Option R, L40_9 (@F41 NN) NN NN (i : Int) (i : Int) (d.length : Int) 1 d e0 = e0 (k' : Int) l := fun e0 => b4 R e0
        rw [b4']
        simp only [d5, d6, cond_true]
        have d7 : (decide (0 ≤ (k' : Int)) && decide ((k' : Int) ≤ ((l.take ((k' : Int)).toNat ++ (List.replicate ((l.length : Int) - (k' : Int)).toNat (⟨0, 0, [], [], 0, 0, [], []⟩ : G_Contact) ++ l.drop ((l.length : Int)).toNat)).length : Int))) = true := by
          simp; omega
        rw [d7]
        simp only [cond_true]
        congr 1
        rw [Int.toNat_natCast, List.take_append_of_le_length (by simp; omega), List.take_take]
        simp
    · have d1 : decide ((i : Int) < (d.length : Int)) = false := by simp; omega
      refine ⟨d, Nat.le_refl _, fun x h => h, fun R k => ?_⟩
      rw [L40_4]
      simp only [d1, cond_false]
theorem F40_gives (d : List G_Contact) (hl : d.length ≤ 100000) : ∃ r : List G_Contact, r.length ≤ d.length ∧ (∀ x ∈ r, x ∈ d) ∧ ∀ (R : Type) (k : List G_Contact → Option R), F40 NN d k = k r := by
  unfold F40 F40_
  by_cases hc : d.length < 2
  · have d1 : decide ((d.length : Int) < 2) = true := by simp; omega
    exact ⟨d, Nat.le_refl _, fun x h => h, fun R k => by simp only [d1, cond_true]⟩
  · have d1 : decide ((d.length : Int) < 2) = false := by simp; omega
    obtain ⟨r, a1, a2, a3⟩ := comp_outer NN 1 d (by unfold NN; omega) (by omega) (by omega) hl
    refine ⟨r, a1, a2, fun R k => ?_⟩
    simp only [d1, cond_false]
    exact a3 R k
theorem L5_4_gives (l : List Int) (m : Nat) : ∀ (n i : Nat) (a at0 : Int) (out : List G_Contact), m - i < n → i ≤ m → m ≤ 100 → 0 ≤ a → a ≤ 100000 + 31 * (i : Int) → 0 ≤ at0 → at0 ≤ 1500000 * (i : Int) → out.length = i → (∀ c ∈ out, Fine c) →
    ∃ r : List G_Contact, ∃ a', a ≤ a' ∧ a' ≤ a + 31 * ((m : Int) - (i : Int)) ∧ r.length = m ∧ (∀ c ∈ r, Fine c) ∧ ∀ (R : Type) (e0 : List Int → Int → List G_Contact → Option R), L5_4 (@F7 NN) (@F28 NN) (@F38 NN) (@F40 NN) NN n at0 (m : Int) (i : Int) l a out e0 = e0 l a' r
  | 0, i, a, at0, out, h, _, _, _, _, _, _, _, _ => by omega
  | n + 1, i, a, at0, out, h, hi, hm, ha, ha2, h1, h2, ho, hf => by
    by_cases hc : i < m
    · have d1 : decide ((i : Int) < (m : Int)) = true := by simpa using hc
      obtain ⟨p, hp, ep⟩ := F7_gives l a [0, 1, 10, 50, 1000, 40000, 1500000] ha (by omega) (by simp) (by simp)
      have hp' : 0 ≤ p ∧ p ≤ 1500000 := by
        simp only [List.mem_cons, List.not_mem_nil, or_false] at hp
        omega
      have e1 : IntKind.i64.wrap (at0 + p) = at0 + p := wr (by omega) (by omega)
      obtain ⟨c, hcf, a2, b1, b2, ec⟩ := F28_gives l (a + 1) (at0 + p) (by omega) (by omega) (by omega) (by omega)
      obtain ⟨r, a', g1, g2, g3, g4, g5⟩ := L5_4_gives l m n (i + 1) a2 (at0 + p) (out ++ [c]) (by omega) (by omega) hm (by omega) (by omega) (by omega) (by omega) (by simp [ho]) (fun x hx => by
        rcases List.mem_append.1 hx with h | h
        · exact hf x h
        · simp at h; rw [h]; exact hcf)
      refine ⟨r, a', by omega, by omega, g3, g4, fun R e0 => ?_⟩
      have e2 : IntKind.i64.wrap ((i : Int) + 1) = ((i + 1 : Nat) : Int) := by rw [wr (by omega) (by omega)]; omega
      have d2 : ∀ y : G_Contact, decide ((out.length + [y].length) * 96 ≤ roomBytes') = true := by intro y; simp [roomBytes']; omega
      rw [L5_4]
      simp only [d1, cond_true, ep, e1, ec, d2, e2]
      exact g5 R e0
    · have d1 : decide ((i : Int) < (m : Int)) = false := by simp; omega
      refine ⟨out, a, by omega, by omega, by omega, hf, fun R e0 => ?_⟩
      rw [L5_4]
      simp only [d1, cond_false]
theorem F5_gives (l : List Int) (a : Int) (m : Nat) (hm : m ≤ 19) (ha : 0 ≤ a) (ha2 : a ≤ 100000) :
    ∃ r : List G_Contact, ∃ a', a ≤ a' ∧ a' ≤ a + 31 * (m : Int) ∧ r.length ≤ m ∧ (∀ c ∈ r, Fine c) ∧ ∀ (R : Type) (k : List G_Contact → List Int → Int → Option R), F5 NN l a (m : Int) k = k r l a' := by
  obtain ⟨r1, a', h1, h2, h3, h4, h5⟩ := L5_4_gives l m NN 0 a 0 [] (by unfold NN; omega) (by omega) (by omega) ha (by omega) (by omega) (by omega) rfl (fun c h => by cases h)
  obtain ⟨r2, g1, g2, g3⟩ := F38_gives r1 (by omega)
  obtain ⟨r3, i1, i2, i3⟩ := F40_gives r2 (by omega)
  refine ⟨r3, a', h1, by omega, by omega, fun c hc => h4 c (g2 c (i2 c hc)), fun R k => ?_⟩
  unfold F5 F5_
  have h5' : ∀ e0 : List Int → Int → List G_Contact → Option R, L5_4 (@F7 NN) (@F28 NN) (@F38 NN) (@F40 NN) NN NN 0 (m : Int) 0 l a [] e0 = e0 l a' r1 := fun e0 => h5 R e0
  rw [h5']
  simp only [g3, i3]
end Go.Am
