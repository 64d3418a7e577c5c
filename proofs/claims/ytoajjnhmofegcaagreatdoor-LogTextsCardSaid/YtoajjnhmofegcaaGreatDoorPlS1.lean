/- The plain law, in Lean alone: S1, C1, C2. No condition: lemmas for the claim. -/
import Derived.Test.YtoajjnhmofegcaaGreatDoorF1
import Derived.Test.YtoajjnhmofegcaaGreatDoorF2
import Derived.Test.YtoajjnhmofegcaaGreatDoorF3
import Derived.Test.YtoajjnhmofegcaaGreatDoorF4
import Derived.Test.YtoajjnhmofegcaaGreatDoorF5
import Derived.Test.YtoajjnhmofegcaaGreatDoorF6
import Derived.Test.YtoajjnhmofegcaaGreatDoorF7
import Derived.Test.YtoajjnhmofegcaaGreatDoorPlB1
import Derived.Test.YtoajjnhmofegcaaGreatDoorPlK
set_option linter.unusedVariables false
set_option linter.unusedSectionVars false
set_option linter.unusedSimpArgs false
set_option maxRecDepth 100000
namespace Go.Am
open Go Go.Proofs
variable [Fuel]
def SOk (b : Int) (s : G_Stream) : Prop := 0 ≤ s.f_at ∧ s.f_at ≤ b
theorem SOk.mono {a b : Int} {s : G_Stream} (h : SOk a s) (hab : a ≤ b) : SOk b s := ⟨h.1, Int.le_trans h.2 hab⟩
theorem sOk0 (l : List Int) : SOk 0 ⟨l, 0⟩ := ⟨Int.le_refl _, Int.le_refl _⟩
theorem M_Below_gives (x n : Int) (hn : n ≤ 1099511627776) : ∃ r, 0 ≤ r ∧ (1 ≤ n → r < n) ∧ (n < 1 → r = 0) ∧ ∀ (R : Type) (k : Int → Option R), M_Below x n k = k r := by
 unfold M_Below M_Below_
 by_cases h : n < 1
 ·exact ⟨0, Int.le_refl _, fun h' => by omega, fun _ => rfl, fun R k => by simp [h]⟩
 ·have h0 : (n == 0) = false := by simp; omega
  have hb1 := Int.tmod_lt_of_pos x (show 0 < n by omega)
  have hb2 : -n < Int.tmod x n := by
   rcases Int.lt_or_le x 0 with hx | hx
   ·have h1 := Int.tmod_lt_of_pos (-x) (show 0 < n by omega)
    rw [Int.neg_tmod] at h1
    omega
   ·have := Int.tmod_nonneg n hx
    omega
  by_cases h2 : Int.tmod x n < 0
  ·refine ⟨Int.tmod x n + n, by omega, fun _ => by omega, fun h' => by omega, fun R k => ?_⟩
   rw [w64_eq (by omega) (by omega)]
   simp [h, h0, h2]
  ·exact ⟨Int.tmod x n, by omega, fun _ => hb1, fun h' => by omega, fun R k => by simp [h, h0, h2]⟩
theorem Stream_Next_gives {b : Int} {s : G_Stream} (hs : SOk b s) (n : Int) (hb : b ≤ 1099511627776) (hn : n ≤ 1099511627776) :
  ∃ r s', 0 ≤ r ∧ (1 ≤ n → r < n) ∧ SOk (b + 1) s' ∧ ∀ (R : Type) (k : Int → G_Stream → Option R), Stream_Next s n k = k r s' := by
 obtain ⟨l, a⟩ := s
 obtain ⟨ha, ha2⟩ := hs
 simp only at ha ha2
 have e1 : w64 (a + 1) = a + 1 := w64_eq (by omega) (by omega)
 have e2 : w64 (a + 1 - 1) = a := by rw [w64_eq (by omega) (by omega)]; omega
 have hso : SOk (b + 1) ⟨l, a + 1⟩ := ⟨by simp only; omega, by simp only; omega⟩
 simp only [Stream_Next, Stream_Next_, I_Stream_Next, e1, e2]
 cases l with
 | nil =>
  obtain ⟨r, h1, h2, h3, h4⟩ := M_Below_gives (w64 ((a + 1) * 7919)) n hn
  exact ⟨r, _, h1, h2, hso, fun R k => by simp [h4]⟩
 | cons x xs =>
  have hlen : (0 : Int) < ((x :: xs).length : Int) := by rw [List.length_cons]; omega
  have hne : (((x :: xs).length : Int) == 0) = false := by rw [beq_eq_false_iff_ne]; omega
  have h0 := Int.tmod_nonneg ((x :: xs).length : Int) ha
  have hlt := Int.tmod_lt_of_pos a hlen
  obtain ⟨y, hy⟩ : ∃ y, (x :: xs)[(Int.tmod a ((x :: xs).length : Int)).toNat]? = some y := ⟨_, List.getElem?_eq_getElem (by omega)⟩
  obtain ⟨r1, _, _, _, g4⟩ := M_Below_gives y 1073741824 (by omega)
  obtain ⟨r, h1, h2, h3, h4⟩ := M_Below_gives (w64 (r1 + w64 (w64 (Int.tdiv a ((x :: xs).length : Int)) * w64 (7919 + Int.tmod a ((x :: xs).length : Int))))) n hn
  refine ⟨r, _, h1, h2, hso, fun R k => ?_⟩
  simp only [hne, cond_false, get_, h0, decide_true, cond_true, at_int hy, g4, h4]
theorem Stream_Range_gives {b : Int} {s : G_Stream} (hs : SOk b s) (lo hi : Int) (hb : b ≤ 1099511627776) (h1 : -1099511627776 ≤ lo) (h2 : hi ≤ 1099511627776) (h3 : lo ≤ hi) (h4 : hi - lo ≤ 1099511627775) :
  ∃ r s', lo ≤ r ∧ r ≤ hi ∧ SOk (b + 1) s' ∧ ∀ (R : Type) (k : Int → G_Stream → Option R), Stream_Range s lo hi k = k r s' := by
 have e : w64 (w64 (hi - lo) + 1) = hi - lo + 1 := by
  rw [w64_eq (x := hi - lo) (by omega) (by omega), w64_eq (by omega) (by omega)]
 obtain ⟨r, s', g1, g2, g4, g3⟩ := Stream_Next_gives hs (hi - lo + 1) hb (by omega)
 have := g2 (by omega)
 refine ⟨lo + r, s', by omega, by omega, g4, fun R k => ?_⟩
 have hd : decide (hi < lo) = false := by simp; omega
 simp only [Stream_Range, Stream_Range_, I_Stream_Range, hd, cond_false, e, g3]
 rw [w64_eq (by omega) (by omega)]
theorem Stream_Pick_gives {b : Int} {s : G_Stream} (hs : SOk b s) (xs : List Int) (hb : b ≤ 1099511627776) (hx : xs ≠ []) (hl : xs.length ≤ 1000) :
  ∃ r s', r ∈ xs ∧ SOk (b + 1) s' ∧ ∀ (R : Type) (k : Int → G_Stream → Option R), Stream_Pick s xs k = k r s' := by
 obtain ⟨r, s', g1, g2, g4, g3⟩ := Stream_Next_gives hs (xs.length : Int) hb (by omega)
 have hpos : 0 < xs.length := List.length_pos_iff.2 hx
 have := g2 (by omega)
 have hlt : r.toNat < xs.length := by omega
 refine ⟨xs[r.toNat], s', List.getElem_mem hlt, g4, fun R k => ?_⟩
 simp only [Stream_Pick, Stream_Pick_, I_Stream_Pick, g3, get_, g1, decide_true, cond_true, at_int (List.getElem?_eq_getElem hlt)]
theorem Stream_Some_gives {b : Int} {s : G_Stream} (hs : SOk b s) (xs : List (List UInt8)) (hb : b ≤ 1099511627776) (hx : xs ≠ []) (hl : xs.length ≤ 1000) :
  ∃ r s', r ∈ xs ∧ SOk (b + 1) s' ∧ ∀ (R : Type) (k : List UInt8 → G_Stream → Option R), Stream_Some s xs k = k r s' := by
 obtain ⟨r, s', g1, g2, g4, g3⟩ := Stream_Next_gives hs (xs.length : Int) hb (by omega)
 have hpos : 0 < xs.length := List.length_pos_iff.2 hx
 have := g2 (by omega)
 have hlt : r.toNat < xs.length := by omega
 refine ⟨xs[r.toNat], s', List.getElem_mem hlt, g4, fun R k => ?_⟩
 simp only [Stream_Some, Stream_Some_, I_Stream_Some, g3, get_, g1, decide_true, cond_true, at_int (List.getElem?_eq_getElem hlt)]
theorem Stream_Flip_gives {b : Int} {s : G_Stream} (hs : SOk b s) (n : Int) (hb : b ≤ 1099511627776) (hn : n ≤ 1099511627776) :
  ∃ f s', SOk (b + 1) s' ∧ ∀ (R : Type) (k : Bool → G_Stream → Option R), Stream_Flip s n k = k f s' := by
 obtain ⟨r, s', g1, g2, g4, g3⟩ := Stream_Next_gives hs n hb hn
 exact ⟨r == 0, s', g4, fun R k => by simp only [Stream_Flip, Stream_Flip_, I_Stream_Flip, g3]⟩
def callsL : List (List UInt8) := [[], [107, 49], [75, 49, 65, 66], [107, 49, 97, 98, 47], [49, 97], [107, 49, 97, 98, 47, 109, 109, 47, 112], [107, 49, 97, 98], [107, 49, 97, 97], [107, 49, 97, 98, 47, 52], [111, 104, 50, 97, 98, 99], [111, 104, 50, 97, 98, 100], [119, 49, 97, 119], [110, 49, 109, 109], [103, 51, 120, 121, 122, 47, 112]]
theorem sub_mem {α : Type} [BEq α] [LawfulBEq α] {xs ys : List α} {x : α} (h : x ∈ xs) (hs : xs.all (fun y => ys.contains y) = true) : x ∈ ys := by
 have := List.all_eq_true.1 hs x h
 simpa using this
theorem Stream_ACall_gives {b : Int} {s : G_Stream} (hs : SOk b s) (hb : b ≤ 1099511627000) :
  ∃ r s', r ∈ callsL ∧ SOk (b + 2) s' ∧ ∀ (R : Type) (k : List UInt8 → G_Stream → Option R), Stream_ACall s k = k r s' := by
 obtain ⟨f, s1, h1, e1⟩ := Stream_Flip_gives hs 60 (by omega) (by omega)
 cases f with
 | true =>
  obtain ⟨r, s2, hr, h2, e2⟩ := Stream_Some_gives h1 [[], [107, 49], [75, 49, 65, 66], [107, 49, 97, 98, 47], [49, 97], [107, 49, 97, 98, 47, 109, 109, 47, 112]] (by omega) (by simp) (by simp)
  exact ⟨r, s2, sub_mem hr (by decide +kernel), h2.mono (by omega), fun R k => by simp only [Stream_ACall, Stream_ACall_, I_Stream_ACall, e1, cond_true, e2]⟩
 | false =>
  obtain ⟨r, s2, hr, h2, e2⟩ := Stream_Some_gives h1 [[107, 49, 97, 98], [107, 49, 97, 97], [107, 49, 97, 98, 47, 52], [111, 104, 50, 97, 98, 99], [111, 104, 50, 97, 98, 100], [119, 49, 97, 119], [110, 49, 109, 109], [103, 51, 120, 121, 122, 47, 112]] (by omega) (by simp) (by simp)
  exact ⟨r, s2, sub_mem hr (by decide +kernel), h2.mono (by omega), fun R k => by simp only [Stream_ACall, Stream_ACall_, I_Stream_ACall, e1, cond_false, e2]⟩
theorem Stream_Odd_gives {b : Int} {s : G_Stream} (hs : SOk b s) (lo hi : Int) (hb : b ≤ 1099511627000) (h1 : -1000000000000 ≤ lo) (h2 : hi ≤ 1000000000000) (h3 : lo ≤ hi) (h4 : hi - lo ≤ 1000000000000) :
  ∃ r s', -1099511627776 ≤ r ∧ r ≤ 1099511627776 ∧ SOk (b + 2) s' ∧ ∀ (R : Type) (k : Int → G_Stream → Option R), Stream_Odd s lo hi k = k r s' := by
 obtain ⟨f, s1, g1, e1⟩ := Stream_Flip_gives hs 12 (by omega) (by omega)
 cases f with
 | true =>
  obtain ⟨r, s2, hr, g2, e2⟩ := Stream_Pick_gives g1 [lo - 1, hi + 1, lo, hi, -1099511627776, 1099511627776] (by omega) (by simp) (by simp)
  refine ⟨r, s2, ?_, ?_, g2.mono (by omega), fun R k => ?_⟩
  ·simp only [List.mem_cons, List.not_mem_nil, or_false] at hr; omega
  ·simp only [List.mem_cons, List.not_mem_nil, or_false] at hr; omega
  ·simp only [Stream_Odd, Stream_Odd_, I_Stream_Odd, e1, cond_true]
   rw [w64_eq (x := lo - 1) (by omega) (by omega), w64_eq (x := hi + 1) (by omega) (by omega), e2]
 | false =>
  obtain ⟨r, s2, r1, r2, g2, e2⟩ := Stream_Range_gives g1 lo hi (by omega) (by omega) (by omega) h3 (by omega)
  exact ⟨r, s2, by omega, by omega, g2.mono (by omega), fun R k => by simp only [Stream_Odd, Stream_Odd_, I_Stream_Odd, e1, cond_false, e2]⟩
def keysL : List (List UInt8) := [[98, 50, 48], [98, 52, 48], [], [66], [102, 105, 110], [117, 115, 97], [65], [49], [98, 49, 54, 48], [98, 51, 48]]
abbrev Mid (x : Int) : Prop := -2199023255552 ≤ x ∧ x ≤ 2199023255552
structure Fine (c : G_Contact) : Prop where
 at1 : Mid c.f_At
 mode : Mid c.f_Mode
 sent : Mid c.f_Sent
 heard : Mid c.f_Heard
 band : c.f_Band ∈ keysL
 call : c.f_Call ∈ callsL
 gave : c.f_Gave ∈ keysL
 got : c.f_Got ∈ keysL
theorem Stream_SomeContact_gives {b0 : Int} {s : G_Stream} (hs : SOk b0 s) (at0 : Int) (hb : b0 ≤ 1099511626000) (h1 : 0 ≤ at0) (h2 : at0 ≤ 1000000000) :
  ∃ (c : G_Contact) (s' : G_Stream), Fine c ∧ c.f_Heard ≤ 1099511627776 ∧ SOk (b0 + 30) s' ∧ ∀ (R : Type) (k : G_Contact → G_Stream → Option R), Stream_SomeContact s at0 k = k c s' := by
 obtain ⟨m, s1, hm, z1, em⟩ := Stream_Pick_gives hs [1, 1, 2, 3] (by omega) (by simp) (by simp)
 obtain ⟨b, s2, hb2, z2, eb⟩ := Stream_Some_gives z1 [[98, 50, 48], [98, 50, 48], [98, 52, 48]] (by omega) (by simp) (by simp)
 obtain ⟨c, s3, hc, z3, ec⟩ := Stream_ACall_gives z2 (by omega)
 obtain ⟨s, s4, hs, z4, es⟩ := Stream_Pick_gives z3 [0, 1, 2, 3, 4, 5, 6, 7] (by omega) (by simp) (by simp)
 obtain ⟨h, s5, hh, z5, eh⟩ := Stream_Pick_gives z4 [0, 1, 2, 9] (by omega) (by simp) (by simp)
 obtain ⟨g, s6, hg, z6, eg⟩ := Stream_Some_gives z5 [[], [], [102, 105, 110]] (by omega) (by simp) (by simp)
 obtain ⟨o, s7, ho, z7, eo⟩ := Stream_Some_gives z6 [[], [], [117, 115, 97]] (by omega) (by simp) (by simp)
 obtain ⟨f, s8, z8, ef⟩ := Stream_Flip_gives z7 100 (by omega) (by omega)
 have kb : b ∈ keysL := sub_mem hb2 (by decide +kernel)
 have kg : g ∈ keysL := sub_mem hg (by decide +kernel)
 have ko : o ∈ keysL := sub_mem ho (by decide +kernel)
 simp only [List.mem_cons, List.not_mem_nil, or_false] at hm hs hh
 simp only [Stream_SomeContact, Stream_SomeContact_, I_Stream_SomeContact, em, eb, ec, es, eh, eg, eo, ef]
 cases f with
 | false => exact ⟨⟨at0, m, b, c, s, h, g, o⟩, s8, ⟨⟨by simp only; omega, by simp only; omega⟩, ⟨by simp only; omega, by simp only; omega⟩, ⟨by simp only; omega, by simp only; omega⟩, ⟨by simp only; omega, by simp only; omega⟩, kb, hc, kg, ko⟩, by simp only; omega, z8.mono (by omega), fun R k => by simp only [cond_false]⟩
 | true =>
  obtain ⟨q, s9, q1, q2, z9, eq⟩ := Stream_Next_gives z8 4 (by omega) (by omega)
  simp only [cond_true, eq]
  by_cases c0 : q = 0
  ·obtain ⟨x, t1, x1, x2, y1, ex⟩ := Stream_Odd_gives z9 0 500 (by omega) (by omega) (by omega) (by omega) (by omega)
   obtain ⟨y, t2, x3, x4, y2, ey⟩ := Stream_Odd_gives y1 1 3 (by omega) (by omega) (by omega) (by omega) (by omega)
   exact ⟨⟨x, y, b, c, s, h, g, o⟩, t2, ⟨⟨by simp only; omega, by simp only; omega⟩, ⟨by simp only; omega, by simp only; omega⟩, ⟨by simp only; omega, by simp only; omega⟩, ⟨by simp only; omega, by simp only; omega⟩, kb, hc, kg, ko⟩, by simp only; omega, y2.mono (by omega), fun R k => by simp only [c0, beq_self_eq_true, cond_true, ex, ey]⟩
  ·have c0' : (q == 0) = false := by simpa using c0
   by_cases c1 : q = 1
   ·obtain ⟨x, t1, hx, y1, ex⟩ := Stream_Some_gives z9 [[], [66], [98, 50, 48]] (by omega) (by simp) (by simp)
    exact ⟨⟨at0, m, x, c, s, h, g, o⟩, t1, ⟨⟨by simp only; omega, by simp only; omega⟩, ⟨by simp only; omega, by simp only; omega⟩, ⟨by simp only; omega, by simp only; omega⟩, ⟨by simp only; omega, by simp only; omega⟩, sub_mem hx (by decide +kernel), hc, kg, ko⟩, by simp only; omega, y1.mono (by omega), fun R k => by simp only [c0', cond_false, c1, beq_self_eq_true, cond_true, ex]; rfl⟩
   ·have c1' : (q == 1) = false := by simpa using c1
    by_cases c2 : q = 2
    ·obtain ⟨x, t1, x1, x2, y1, ex⟩ := Stream_Odd_gives z9 0 99999 (by omega) (by omega) (by omega) (by omega) (by omega)
     obtain ⟨y, t2, x3, x4, y2, ey⟩ := Stream_Odd_gives y1 0 99999 (by omega) (by omega) (by omega) (by omega) (by omega)
     exact ⟨⟨at0, m, b, c, x, y, g, o⟩, t2, ⟨⟨by simp only; omega, by simp only; omega⟩, ⟨by simp only; omega, by simp only; omega⟩, ⟨by simp only; omega, by simp only; omega⟩, ⟨by simp only; omega, by simp only; omega⟩, kb, hc, kg, ko⟩, by simp only; omega, y2.mono (by omega), fun R k => by simp only [c0', c1', cond_false, c2, beq_self_eq_true, cond_true, ex, ey]; rfl⟩
    ·have c2' : (q == 2) = false := by simpa using c2
     obtain ⟨x, t1, hx, y1, ex⟩ := Stream_Some_gives z9 [[], [65]] (by omega) (by simp) (by simp)
     obtain ⟨y, t2, hy, y2, ey⟩ := Stream_Some_gives y1 [[49], [117, 115, 97]] (by omega) (by simp) (by simp)
     exact ⟨⟨at0, m, b, c, s, h, x, y⟩, t2, ⟨⟨by simp only; omega, by simp only; omega⟩, ⟨by simp only; omega, by simp only; omega⟩, ⟨by simp only; omega, by simp only; omega⟩, ⟨by simp only; omega, by simp only; omega⟩, kb, hc, sub_mem hx (by decide +kernel), sub_mem hy (by decide +kernel)⟩, by simp only; omega, y2.mono (by omega), fun R k => by simp only [c0', c1', c2', cond_false, ex, ey]⟩
end Go.Am
set_option linter.unusedVariables false
set_option linter.unusedSectionVars false
set_option linter.unusedSimpArgs false
set_option maxRecDepth 100000
namespace Go.Am
open Go Go.Proofs
variable [Fuel]
theorem Q_sign_is (x : Int) (R : Type) (k : Int → Option R) : Q_sign x k = k (sgn x) := by
 unfold Q_sign Q_sign_ sgn
 cases decide (x < 0) <;> cases decide (x > 0) <;> rfl
theorem strings_Compare_is (a b : List UInt8) (R : Type) (k : Int → Option R) : strings_Compare a b k = k (Lib.compareBytes a b) := rfl
theorem cmp_Compare__int_is (a b : Int) (R : Type) (k : Int → Option R) : cmp_Compare__int a b k = k (cmpI a b) := by
 have h1 : (a != a) = false := by simp
 have h2 : (b != b) = false := by simp
 simp only [cmp_Compare__int, cmp_Compare__int_, I_cmp_Compare__int, cmp_isNaN__int, cmp_isNaN__int_, h1, h2, cond_false, cmpI]
 cases decide (a < b) <;> cases decide (a > b) <;> rfl
theorem cmp_Or_loop (l : List Int) (hl : l.length < 1000000) : ∀ (xs : List Int) (n i : Nat), l.drop i = xs → xs.length < n → ∀ (R : Type) (k : Int → Option R),
  cmp_Or__int_L3 NN n 0 l (l.length : Int) (i : Int) (fun e8 e9 => k e8) (fun e10 => k e10) = k (orL xs)
 | _, 0, _, _, h, _, _ => by omega
 | [], n + 1, i, h, _, _, _ => by rw [cmp_Or__int_L3, ge_drop h]; rfl
 | x :: xs, n + 1, i, h, hn, R, k => by
  have h' := drop_cons h
  rw [cmp_Or__int_L3, lt_drop h]
  simp only [cond_true, get_drop h, orL]
  cases hx : x != 0 with
  | true => rfl
  | false =>
   simp only [cond_false]
   rw [w64_succ (by omega)]
   exact cmp_Or_loop l hl xs n (i + 1) h'.2.2.1 (by simp at hn; omega) R k
theorem cmp_Or__int_is (l : List Int) (hl : l.length < 1000000) (R : Type) (k : Int → Option R) : cmp_Or__int l k = k (orL l) :=
 cmp_Or_loop l hl l NN 0 rfl (by have := NN_ok; omega) R k
def ordC (x y : G_Contact) : Int :=
 bif x.f_At != y.f_At then sgn (w64 (x.f_At - y.f_At)) else bif !(x.f_Call == y.f_Call) then Lib.compareBytes x.f_Call y.f_Call
 else bif !(x.f_Band == y.f_Band) then Lib.compareBytes x.f_Band y.f_Band else sgn (w64 (x.f_Mode - y.f_Mode))
theorem Q_ContactOrder_ord (x y : G_Contact) (R : Type) (k : Int → Option R) : Q_ContactOrder x y k = k (ordC x y) := by
 simp only [Q_ContactOrder, Q_ContactOrder_, I_Q_ContactOrder, ordC, Q_sign_is, strings_Compare_is]
 cases x.f_At != y.f_At <;> cases !(x.f_Call == y.f_Call) <;> cases !(x.f_Band == y.f_Band) <;> rfl
def cmpC (x y : G_Contact) : Int := orL [cmpI x.f_At y.f_At, Lib.compareBytes x.f_Call y.f_Call, Lib.compareBytes x.f_Band y.f_Band, cmpI x.f_Mode y.f_Mode]
theorem log_Compare_is (x y : G_Contact) (R : Type) (k : Int → Option R) : log_Compare x y k = k (cmpC x y) := by
 simp only [log_Compare, log_Compare_, I_log_Compare, cmpC, cmp_Compare__int_is, strings_Compare_is, cmp_Or__int_is _ (show [cmpI x.f_At y.f_At, Lib.compareBytes x.f_Call y.f_Call, Lib.compareBytes x.f_Band y.f_Band, cmpI x.f_Mode y.f_Mode].length < 1000000 by simp)]
theorem ord_cmp {x y : G_Contact} (hx : Mid x.f_At) (hx2 : Mid x.f_Mode) (hy : Mid y.f_At) (hy2 : Mid y.f_Mode) : ordC x y = cmpC x y := by
 unfold ordC cmpC
 simp only [orL]
 rw [sgn_cmp ⟨by omega, by omega⟩ ⟨by omega, by omega⟩, sgn_cmp ⟨by omega, by omega⟩ ⟨by omega, by omega⟩]
 rw [ne_cmpI, ne_cb, ne_cb]
 cases h4 : cmpI x.f_Mode y.f_Mode != 0 with
 | true => rfl
 | false =>
  have : cmpI x.f_Mode y.f_Mode = 0 := by simpa using h4
  rw [this]; rfl
theorem Q_ContactOrder_is {x y : G_Contact} (hx : Fine x) (hy : Fine y) (R : Type) (k : Int → Option R) : Q_ContactOrder x y k = k (cmpC x y) := by
 rw [Q_ContactOrder_ord, ord_cmp hx.at1 hx.mode hy.at1 hy.mode]
noncomputable def keyB (s : List UInt8) : Bool := (kit_IsKey s some).getD false
noncomputable def callB (s : List UInt8) : Bool := (call_Is s some).getD false
def okBool (a b : Option Bool) : Bool := match a, b with | some x, some y => x == y | _, _ => false
theorem okBool_is {a b : Option Bool} (h : okBool a b = true) : a = some (a.getD false) ∧ b = some (a.getD false) := by
 unfold okBool at h
 split at h
 ·simp at h; subst h; exact ⟨rfl, rfl⟩
 ·cases h
theorem someBool_is {a : Option Bool} (h : a.isSome = true) : a = some (a.getD false) := by
 cases a with
 | none => cases h
 | some x => rfl
theorem keysI_ok : keysL.all (fun s => (kit_IsKey s some).isSome) = true := by
 obtain ⟨m, h, rfl⟩ := fuel_is ‹Fuel›
 kernel_rfl
theorem callsI_ok : callsL.all (fun s => (call_Is s some).isSome) = true := by
 obtain ⟨m, h, rfl⟩ := fuel_is ‹Fuel›
 kernel_rfl
theorem keys_ok : keysL.all (fun s => okBool (kit_IsKey s some) (Q_Key s some)) = true := by
 obtain ⟨m, h, rfl⟩ := fuel_is ‹Fuel›
 kernel_rfl
theorem calls_ok : callsL.all (fun s => okBool (call_Is s some) (Q_Call s some)) = true := by
 obtain ⟨m, h, rfl⟩ := fuel_is ‹Fuel›
 kernel_rfl
theorem kit_IsKey_is {s : List UInt8} (h : s ∈ keysL) (R : Type) (k : Bool → Option R) : kit_IsKey s k = k (keyB s) :=
 nat_bool ok_kit_IsKey.na (args := [.d (.str s)]) (F := @kit_IsKey _ s) (fun _ _ => rfl) (someBool_is (List.all_eq_true.1 keysI_ok s h)) R k
theorem Q_Key_is {s : List UInt8} (h : s ∈ keysL) (R : Type) (k : Bool → Option R) : Q_Key s k = k (keyB s) :=
 nat_bool ok_Q_Key.na (args := [.d (.str s)]) (F := @Q_Key _ s) (fun _ _ => rfl) (okBool_is (List.all_eq_true.1 keys_ok s h)).2 R k
theorem call_Is_is {s : List UInt8} (h : s ∈ callsL) (R : Type) (k : Bool → Option R) : call_Is s k = k (callB s) :=
 nat_bool ok_call_Is.na (args := [.d (.str s)]) (F := @call_Is _ s) (fun _ _ => rfl) (someBool_is (List.all_eq_true.1 callsI_ok s h)) R k
theorem Q_Call_is {s : List UInt8} (h : s ∈ callsL) (R : Type) (k : Bool → Option R) : Q_Call s k = k (callB s) :=
 nat_bool ok_Q_Call.na (args := [.d (.str s)]) (F := @Q_Call _ s) (fun _ _ => rfl) (okBool_is (List.all_eq_true.1 calls_ok s h)).2 R k
noncomputable def nameB (s : List UInt8) : Bool := bif s == [] then true else keyB s
theorem kit_IsName_is {s : List UInt8} (h : s ∈ keysL) (R : Type) (k : Bool → Option R) : kit_IsName s k = k (nameB s) := by
 simp only [kit_IsName, kit_IsName_, I_kit_IsName, nameB, kit_IsKey_is h]
 cases s == [] <;> rfl
def inB (n lo hi : Int) : Bool := bif decide (lo ≤ n) then decide (n ≤ hi) else false
theorem inB_is {n lo hi : Int} : inB n lo hi = true ↔ lo ≤ n ∧ n ≤ hi := by
 unfold inB
 by_cases h : lo ≤ n <;> simp [h]
theorem kit_Outside_is (n lo hi : Int) (R : Type) (k : Bool → Option R) : kit_Outside n lo hi k = k (!inB n lo hi) := by
 unfold kit_Outside kit_Outside_ inB
 by_cases h1 : n < lo
 ·have h2 : ¬ lo ≤ n := by omega
  rw [decide_eq_true h1, decide_eq_false h2]; rfl
 ·have h2 : lo ≤ n := by omega
  rw [decide_eq_false h1, decide_eq_true h2]
  simp only [cond_false, cond_true]
  congr 1
  by_cases h3 : n ≤ hi
  ·rw [decide_eq_true h3, decide_eq_false (show ¬ n > hi by omega)]; rfl
  ·rw [decide_eq_false h3, decide_eq_true (show n > hi by omega)]; rfl
theorem Q_in_is (n lo hi : Int) (R : Type) (k : Bool → Option R) : Q_in n lo hi k = k (inB n lo hi) := by
 unfold Q_in Q_in_ inB
 cases decide (lo ≤ n) <;> rfl
def momB (x : Int) : Bool := inB x 0 345686399999
theorem kit_IsMoment_is (x : Int) (R : Type) (k : Bool → Option R) : kit_IsMoment x k = k (momB x) := by
 simp only [kit_IsMoment, kit_IsMoment_, I_kit_IsMoment, kit_Outside_is, Bool.not_not, momB]
theorem kit_IsMode_is (x : Int) (R : Type) (k : Bool → Option R) : kit_IsMode x k = k (inB x 1 3) := by
 simp only [kit_IsMode, kit_IsMode_, I_kit_IsMode, kit_Outside_is, Bool.not_not]
theorem Q_Moment_is (x : Int) (R : Type) (k : Bool → Option R) : Q_Moment x k = k (momB x) := by
 simp only [Q_Moment, Q_Moment_, I_Q_Moment, Q_in_is, momB]
noncomputable def chk (c : G_Contact) : Int :=
 bif !momB c.f_At then 1 else bif !inB c.f_Mode 1 3 then 4 else bif !keyB c.f_Band then 5 else bif !callB c.f_Call then 3 else
 bif !inB c.f_Sent 0 99999 then 1 else bif !inB c.f_Heard 0 99999 then 1 else bif !nameB c.f_Gave then 5 else bif !nameB c.f_Got then 5 else 0
theorem log_CheckContact_is {c : G_Contact} (h : Fine c) (R : Type) (k : Int → Option R) : log_CheckContact c k = k (chk c) := by
 simp only [log_CheckContact, log_CheckContact_, I_log_CheckContact, chk, kit_IsMoment_is, kit_IsMode_is, kit_Outside_is, kit_IsKey_is h.band, call_Is_is h.call, kit_IsName_is h.gave, kit_IsName_is h.got]
 cases momB c.f_At <;> cases inB c.f_Mode 1 3 <;> cases keyB c.f_Band <;> cases callB c.f_Call <;> cases inB c.f_Sent 0 99999 <;> cases inB c.f_Heard 0 99999 <;> cases nameB c.f_Gave <;> cases nameB c.f_Got <;> rfl
theorem Q_ContactFault_is {c : G_Contact} (h : Fine c) (R : Type) (k : Int → Option R) : Q_ContactFault c k = k (chk c) := by
 simp only [Q_ContactFault, Q_ContactFault_, I_Q_ContactFault, chk, Q_Moment_is, Q_in_is, Q_Key_is h.band, Q_Call_is h.call, Q_Key_is h.gave, Q_Key_is h.got, nameB]
 cases momB c.f_At <;> cases inB c.f_Mode 1 3 <;> cases keyB c.f_Band <;> cases callB c.f_Call <;> cases inB c.f_Sent 0 99999 <;> cases inB c.f_Heard 0 99999 <;> cases c.f_Gave == [] <;> cases keyB c.f_Gave <;> cases c.f_Got == [] <;> cases keyB c.f_Got <;> rfl
noncomputable def faultC : Option G_Contact → List G_Contact → Int
 | _, [] => 0
 | p, c :: cs => bif chk c != 0 then chk c else match p with
  | none => faultC (some c) cs
  | some q => bif decide (cmpC q c ≥ 0) then 7 else faultC (some c) cs
def PrevAt {α : Type} (d : List α) (i : Nat) (p : Option α) : Prop := match p with | none => i = 0 | some q => 0 < i ∧ ∃ xs, d.drop (i - 1) = q :: xs
theorem prevAt_next {α : Type} {d : List α} {i : Nat} {c : α} {cs : List α} (h : d.drop i = c :: cs) : PrevAt d (i + 1) (some c) := ⟨by omega, cs, h⟩
theorem log_CheckLog_loop (d : List G_Contact) (hf : ∀ c ∈ d, Fine c) (hl : d.length ≤ 100000) : ∀ (xs : List G_Contact) (n i : Nat) (p : Option G_Contact), d.drop i = xs → PrevAt d i p → xs.length < n → ∀ (R : Type) (k : Int → Option R),
  log_CheckLog_L4 I_log_CheckLog n d d (d.length : Int) (i : Int) k (k 0) = k (faultC p xs)
 | _, 0, _, _, _, _, h, _, _ => by omega
 | [], n + 1, i, p, h, _, _, _, _ => by rw [log_CheckLog_L4, ge_drop h]; rfl
 | c :: cs, n + 1, i, p, h, hp, hn, R, k => by
  have h' := drop_cons h
  have ih := log_CheckLog_loop d hf hl cs n (i + 1) (some c) h'.2.2.1 (prevAt_next h) (by simp at hn; omega) R k
  rw [log_CheckLog_L4, lt_drop h]
  simp only [cond_true, get_drop h, I_log_CheckLog, log_CheckContact_is (hf c (mem_drop h)), log_Compare_is, faultC]
  cases hq : chk c != 0 with
  | true => rfl
  | false =>
   simp only [cond_false]
   cases p with
   | none =>
    rw [decide_eq_false (show ¬ ((i : Int) > 0) by unfold PrevAt at hp; omega), w64_succ (by omega)]
    exact ih
   | some q =>
    obtain ⟨h0, ys, hq⟩ := hp
    rw [decide_eq_true (show ((i : Int) > 0) by omega), prev_drop hq h0 (by omega), w64_succ (by omega)]
    simp only [cond_true]
    cases decide (cmpC q c ≥ 0) with
    | true => rfl
    | false => exact ih
theorem Q_LogFault_loop (d : List G_Contact) (hf : ∀ c ∈ d, Fine c) (hl : d.length ≤ 100000) : ∀ (xs : List G_Contact) (n i : Nat) (p : Option G_Contact), d.drop i = xs → PrevAt d i p → xs.length < n → ∀ (R : Type) (k : Int → Option R),
  Q_LogFault_L4 I_Q_LogFault n d d (d.length : Int) (i : Int) k (k 0) = k (faultC p xs)
 | _, 0, _, _, _, _, h, _, _ => by omega
 | [], n + 1, i, p, h, _, _, _, _ => by rw [Q_LogFault_L4, ge_drop h]; rfl
 | c :: cs, n + 1, i, p, h, hp, hn, R, k => by
  have h' := drop_cons h
  have ih := Q_LogFault_loop d hf hl cs n (i + 1) (some c) h'.2.2.1 (prevAt_next h) (by simp at hn; omega) R k
  rw [Q_LogFault_L4, lt_drop h]
  simp only [cond_true, get_drop h, I_Q_LogFault, Q_ContactFault_is (hf c (mem_drop h)), faultC]
  cases hq : chk c != 0 with
  | true => rfl
  | false =>
   simp only [cond_false]
   cases p with
   | none =>
    rw [decide_eq_false (show ¬ ((i : Int) > 0) by unfold PrevAt at hp; omega), w64_succ (by omega)]
    exact ih
   | some q =>
    obtain ⟨h0, ys, hq⟩ := hp
    rw [decide_eq_true (show ((i : Int) > 0) by omega), prev_drop hq h0 (by omega), w64_succ (by omega)]
    simp only [Q_ContactOrder_is (hf q (mem_drop hq)) (hf c (mem_drop h)), cond_true]
    cases decide (cmpC q c ≥ 0) with
    | true => rfl
    | false => exact ih
noncomputable def faultL (d : List G_Contact) : Int := bif decide ((d.length : Int) > 2000) then 2 else faultC none d
theorem log_CheckLog_is {d : List G_Contact} (hf : ∀ c ∈ d, Fine c) (hl : d.length ≤ 100000) (R : Type) (k : Int → Option R) : log_CheckLog d k = k (faultL d) := by
 have h : log_CheckLog_L4 I_log_CheckLog I_log_CheckLog.N d d (d.length : Int) 0 k (k 0) = k (faultC none d) := log_CheckLog_loop d hf hl d I_log_CheckLog.N 0 none rfl rfl (show d.length < NN by have := NN_ok; omega) R k
 simp only [log_CheckLog, log_CheckLog_, faultL, h]
 cases decide ((d.length : Int) > 2000) <;> rfl
theorem Q_LogFault_is {d : List G_Contact} (hf : ∀ c ∈ d, Fine c) (hl : d.length ≤ 100000) (R : Type) (k : Int → Option R) : Q_LogFault d k = k (faultL d) := by
 have h : Q_LogFault_L4 I_Q_LogFault I_Q_LogFault.N d d (d.length : Int) 0 k (k 0) = k (faultC none d) := Q_LogFault_loop d hf hl d I_Q_LogFault.N 0 none rfl rfl (show d.length < NN by have := NN_ok; omega) R k
 simp only [Q_LogFault, Q_LogFault_, faultL, h]
 cases decide ((d.length : Int) > 2000) <;> rfl
end Go.Am
set_option linter.unusedVariables false
set_option linter.unusedSectionVars false
set_option linter.unusedSimpArgs false
set_option maxRecDepth 100000
namespace Go.Am
open Go Go.Proofs
variable [Fuel]
theorem sortC_ord {l : List G_Contact} (hf : ∀ c ∈ l, Fine c) (hl : l.length ≤ 20) (R : Type) (k : List G_Contact → Option R) : slices_SortStableFunc__Contact_Q_ContactOrder l k = k (sortI cmpC l) := by
 simp only [slices_SortStableFunc__Contact_Q_ContactOrder, slices_SortStableFunc__Contact_Q_ContactOrder_, I_slices_SortStableFunc__Contact_Q_ContactOrder, li_slices_stableCmpFunc__Contact_Q_ContactOrder]
 exact sSta_is cmpC Fine (fun x y hx hy => Q_ContactOrder_is hx hy) l hf hl (by have := NN_ok; omega) (by have := NN_ok; omega) _ (fun l a b R k => by rw [li_slices_insertionSortCmpFunc__Contact_Q_ContactOrder]) k
theorem Stream_Contacts_1_is {x y : G_Contact} (hx : Fine x) (hy : Fine y) (R : Type) (k : Bool → Option R) : Stream_Contacts_1 x y k = k (cmpC x y == 0) := by
 simp only [Stream_Contacts_1, Stream_Contacts_1_, I_Stream_Contacts_1, Q_ContactOrder_is hx hy]
theorem compfC_is {l : List G_Contact} (hf : ∀ c ∈ l, Fine c) (hl : l.length ≤ 100000) (R : Type) (k : List G_Contact → Option R) : slices_CompactFunc__Contact_Stream_Contacts_1 l k = k (compactP (fun x y => cmpC x y == 0) l) := by
 rw [li_slices_CompactFunc__Contact_Stream_Contacts_1]
 exact sComp_is _ Fine (fun x y hx hy R k => Stream_Contacts_1_is hx hy R k) l (by have := NN_ok; omega) (by have := NN_ok; omega) hf k
theorem equalC_is {l : List G_Contact} (hl : l.length ≤ 1000000) (R : Type) (k : Bool → Option R) : slices_Equal__Contact l l k = k true := by
 rw [li_slices_Equal__Contact]; exact sEqual_same (by have := NN_ok; omega) (by have := NN_ok; omega) (fun x => by rw [(eq_G_Contact_is x x).2 rfl]; rfl) k
theorem Stream_Contacts_loop (m : Nat) (hm : m ≤ 1000) : ∀ (n i : Nat) (at0 : Int) (s : G_Stream) (out : List G_Contact) (b : Int), m - i < n → i ≤ m → SOk (b + 31 * (i : Int)) s → b ≤ 1000000 → 0 ≤ at0 → at0 ≤ 1500000 * (i : Int) → out.length = i → (∀ c ∈ out, Fine c ∧ c.f_Heard ≤ 1099511627776) → m ≤ 600 →
  ∃ (r : List G_Contact) (s' : G_Stream), SOk (b + 31 * (m : Int)) s' ∧ r.length = m ∧ (∀ c ∈ r, Fine c ∧ c.f_Heard ≤ 1099511627776) ∧ ∀ (R : Type) (e0 : G_Stream → List G_Contact → Option R), Stream_Contacts_L4 I_Stream_Contacts n at0 (m : Int) (i : Int) s out e0 = e0 s' r
 | 0, i, _, _, _, _, h, _, _, _, _, _, _, _, _ => by omega
 | n + 1, i, at0, s, out, b, h, hi, hs, hb, h1, h2, ho, hf, hm6 => by
  by_cases hc : i < m
  ·obtain ⟨p, s1, hp, z1, ep⟩ := Stream_Pick_gives hs [0, 1, 10, 50, 1000, 40000, 1500000] (by omega) (by simp) (by simp)
   have hp' : 0 ≤ p ∧ p ≤ 1500000 := by
    simp only [List.mem_cons, List.not_mem_nil, or_false] at hp
    omega
   have e1 : w64 (at0 + p) = at0 + p := w64_eq (by omega) (by omega)
   obtain ⟨c, s2, hcf, hch, z2, ec⟩ := Stream_SomeContact_gives z1 (at0 + p) (by omega) (by omega) (by omega)
   obtain ⟨r, s', g1, g2, g3, g4⟩ := Stream_Contacts_loop m hm n (i + 1) (at0 + p) s2 (out ++ [c]) b (by omega) (by omega) (z2.mono (by omega)) hb (by omega) (by omega) (by simp [ho]) (fun x hx => by
    rcases List.mem_append.1 hx with h | h
    ·exact hf x h
    ·simp at h; rw [h]; exact ⟨hcf, hch⟩) hm6
   refine ⟨r, s', g1, g2, g3, fun R e0 => ?_⟩
   rw [Stream_Contacts_L4]
   simp only [I_Stream_Contacts, decide_eq_true (show (i : Int) < (m : Int) by omega), cond_true, ep, e1, ec, room1 out c 96 (by omega) (by omega)]
   rw [w64_succ (by omega)]
   exact g4 R e0
  ·refine ⟨out, s, hs.mono (by omega), by omega, hf, fun R e0 => ?_⟩
   rw [Stream_Contacts_L4, decide_eq_false (by omega)]; rfl
theorem Stream_Contacts_gives {b : Int} {s : G_Stream} (hs : SOk b s) (hb : b ≤ 1000000) (m : Nat) (hm : m ≤ 20) :
  ∃ (r : List G_Contact) (s' : G_Stream), SOk (b + 31 * (m : Int)) s' ∧ r.length ≤ m ∧ (∀ c ∈ r, Fine c ∧ c.f_Heard ≤ 1099511627776) ∧ ∀ (R : Type) (k : List G_Contact → G_Stream → Option R), Stream_Contacts s (m : Int) k = k r s' := by
 obtain ⟨r, s', g1, g2, g3, g4⟩ := Stream_Contacts_loop m (by omega) NN 0 0 s [] b (by have := NN_ok; omega) (by omega) (hs.mono (by omega)) hb (by omega) (by omega) rfl (fun c h => by cases h) (by omega)
 have g4' : ∀ (R : Type) (e0 : G_Stream → List G_Contact → Option R), Stream_Contacts_L4 I_Stream_Contacts I_Stream_Contacts.N 0 (m : Int) 0 s [] e0 = e0 s' r := g4
 have hr : ∀ c ∈ r, Fine c := fun c h => (g3 c h).1
 have hsr : ∀ c ∈ sortI cmpC r, Fine c := fun c h => hr c (sortI_mem.1 h)
 refine ⟨compactP (fun x y => cmpC x y == 0) (sortI cmpC r), s', g1, ?_, fun c h => g3 c (sortI_mem.1 (compactP_sub h)), fun R k => ?_⟩
 ·have := compactP_len (fun x y => cmpC x y == 0) (sortI cmpC r)
  have := sortI_length cmpC r
  omega
 ·simp only [Stream_Contacts, Stream_Contacts_, g4']
  simp only [I_Stream_Contacts, sortC_ord hr (by omega), compfC_is hsr (by rw [sortI_length]; omega)]
end Go.Am
