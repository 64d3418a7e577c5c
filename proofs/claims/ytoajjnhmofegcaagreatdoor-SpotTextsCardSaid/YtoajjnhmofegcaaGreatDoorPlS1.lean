/- The plain law, in Lean alone: S1, C1, E1. No condition: lemmas for the claim. -/
import Derived.Test.YtoajjnhmofegcaaGreatDoorF1
import Derived.Test.YtoajjnhmofegcaaGreatDoorF2
import Derived.Test.YtoajjnhmofegcaaGreatDoorF3
import Derived.Test.YtoajjnhmofegcaaGreatDoorF4
import Derived.Test.YtoajjnhmofegcaaGreatDoorF5
import Derived.Test.YtoajjnhmofegcaaGreatDoorF6
import Derived.Test.YtoajjnhmofegcaaGreatDoorF7
import Derived.Test.YtoajjnhmofegcaaGreatDoorF8
import Derived.Test.YtoajjnhmofegcaaGreatDoorPlB1
set_option linter.unusedVariables false
set_option linter.unusedSectionVars false
set_option linter.unusedSimpArgs false
set_option maxRecDepth 100000
namespace Go.Am
open Go Go.Proofs
variable [Fuel]
def SOk (b : Int) (s : G_Stream) : Prop := 0 ≤ s.f_at ∧ s.f_at ≤ b
theorem SOk.mono {a b : Int} {s : G_Stream} (h : SOk a s) (hab : a ≤ b) : SOk b s := ⟨h.1, Int.le_trans h.2 hab⟩
theorem sOk0 (l : List Int) : SOk 0 ⟨l, 0⟩ := ⟨Int.le_refl _, Int.le_refl _⟩
theorem M_Below_gives (x n : Int) (hn : n ≤ 1099511627776) : ∃ r, 0 ≤ r ∧ (1 ≤ n → r < n) ∧ (n < 1 → r = 0) ∧ ∀ (R : Type) (k : Int → Option R), M_Below x n k = k r := by
 unfold M_Below M_Below_
 by_cases h : n < 1
 ·exact ⟨0, Int.le_refl _, fun h' => by omega, fun _ => rfl, fun R k => by simp [h]⟩
 ·have h0 : (n == 0) = false := by simp; omega
  have hb1 := Int.tmod_lt_of_pos x (show 0 < n by omega)
  have hb2 : -n < Int.tmod x n := by
   rcases Int.lt_or_le x 0 with hx | hx
   ·have h1 := Int.tmod_lt_of_pos (-x) (show 0 < n by omega)
    rw [Int.neg_tmod] at h1
    omega
   ·have := Int.tmod_nonneg n hx
    omega
  by_cases h2 : Int.tmod x n < 0
  ·refine ⟨Int.tmod x n + n, by omega, fun _ => by omega, fun h' => by omega, fun R k => ?_⟩
   rw [w64_eq (by omega) (by omega)]
   simp [h, h0, h2]
  ·exact ⟨Int.tmod x n, by omega, fun _ => hb1, fun h' => by omega, fun R k => by simp [h, h0, h2]⟩
theorem Stream_Next_gives {b : Int} {s : G_Stream} (hs : SOk b s) (n : Int) (hb : b ≤ 1099511627776) (hn : n ≤ 1099511627776) :
  ∃ r s', 0 ≤ r ∧ (1 ≤ n → r < n) ∧ SOk (b + 1) s' ∧ ∀ (R : Type) (k : Int → G_Stream → Option R), Stream_Next s n k = k r s' := by
 obtain ⟨l, a⟩ := s
 obtain ⟨ha, ha2⟩ := hs
 simp only at ha ha2
 have e1 : w64 (a + 1) = a + 1 := w64_eq (by omega) (by omega)
 have e2 : w64 (a + 1 - 1) = a := by rw [w64_eq (by omega) (by omega)]; omega
 have hso : SOk (b + 1) ⟨l, a + 1⟩ := ⟨by simp only; omega, by simp only; omega⟩
 simp only [Stream_Next, Stream_Next_, I_Stream_Next, e1, e2]
 cases l with
 | nil =>
  obtain ⟨r, h1, h2, h3, h4⟩ := M_Below_gives (w64 ((a + 1) * 7919)) n hn
  exact ⟨r, _, h1, h2, hso, fun R k => by simp [h4]⟩
 | cons x xs =>
  have hlen : (0 : Int) < ((x :: xs).length : Int) := by rw [List.length_cons]; omega
  have hne : (((x :: xs).length : Int) == 0) = false := by rw [beq_eq_false_iff_ne]; omega
  have h0 := Int.tmod_nonneg ((x :: xs).length : Int) ha
  have hlt := Int.tmod_lt_of_pos a hlen
  obtain ⟨y, hy⟩ : ∃ y, (x :: xs)[(Int.tmod a ((x :: xs).length : Int)).toNat]? = some y := ⟨_, List.getElem?_eq_getElem (by omega)⟩
  obtain ⟨r1, _, _, _, g4⟩ := M_Below_gives y 1073741824 (by omega)
  obtain ⟨r, h1, h2, h3, h4⟩ := M_Below_gives (w64 (r1 + w64 (w64 (Int.tdiv a ((x :: xs).length : Int)) * w64 (7919 + Int.tmod a ((x :: xs).length : Int))))) n hn
  refine ⟨r, _, h1, h2, hso, fun R k => ?_⟩
  simp only [hne, cond_false, get_, h0, decide_true, cond_true, at_int hy, g4, h4]
theorem Stream_Range_gives {b : Int} {s : G_Stream} (hs : SOk b s) (lo hi : Int) (hb : b ≤ 1099511627776) (h1 : -1099511627776 ≤ lo) (h2 : hi ≤ 1099511627776) (h3 : lo ≤ hi) (h4 : hi - lo ≤ 1099511627775) :
  ∃ r s', lo ≤ r ∧ r ≤ hi ∧ SOk (b + 1) s' ∧ ∀ (R : Type) (k : Int → G_Stream → Option R), Stream_Range s lo hi k = k r s' := by
 have e : w64 (w64 (hi - lo) + 1) = hi - lo + 1 := by
  rw [w64_eq (x := hi - lo) (by omega) (by omega), w64_eq (by omega) (by omega)]
 obtain ⟨r, s', g1, g2, g4, g3⟩ := Stream_Next_gives hs (hi - lo + 1) hb (by omega)
 have := g2 (by omega)
 refine ⟨lo + r, s', by omega, by omega, g4, fun R k => ?_⟩
 have hd : decide (hi < lo) = false := by simp; omega
 simp only [Stream_Range, Stream_Range_, I_Stream_Range, hd, cond_false, e, g3]
 rw [w64_eq (by omega) (by omega)]
theorem Stream_Pick_gives {b : Int} {s : G_Stream} (hs : SOk b s) (xs : List Int) (hb : b ≤ 1099511627776) (hx : xs ≠ []) (hl : xs.length ≤ 1000) :
  ∃ r s', r ∈ xs ∧ SOk (b + 1) s' ∧ ∀ (R : Type) (k : Int → G_Stream → Option R), Stream_Pick s xs k = k r s' := by
 obtain ⟨r, s', g1, g2, g4, g3⟩ := Stream_Next_gives hs (xs.length : Int) hb (by omega)
 have hpos : 0 < xs.length := List.length_pos_iff.2 hx
 have := g2 (by omega)
 have hlt : r.toNat < xs.length := by omega
 refine ⟨xs[r.toNat], s', List.getElem_mem hlt, g4, fun R k => ?_⟩
 simp only [Stream_Pick, Stream_Pick_, I_Stream_Pick, g3, get_, g1, decide_true, cond_true, at_int (List.getElem?_eq_getElem hlt)]
theorem Stream_Some_gives {b : Int} {s : G_Stream} (hs : SOk b s) (xs : List (List UInt8)) (hb : b ≤ 1099511627776) (hx : xs ≠ []) (hl : xs.length ≤ 1000) :
  ∃ r s', r ∈ xs ∧ SOk (b + 1) s' ∧ ∀ (R : Type) (k : List UInt8 → G_Stream → Option R), Stream_Some s xs k = k r s' := by
 obtain ⟨r, s', g1, g2, g4, g3⟩ := Stream_Next_gives hs (xs.length : Int) hb (by omega)
 have hpos : 0 < xs.length := List.length_pos_iff.2 hx
 have := g2 (by omega)
 have hlt : r.toNat < xs.length := by omega
 refine ⟨xs[r.toNat], s', List.getElem_mem hlt, g4, fun R k => ?_⟩
 simp only [Stream_Some, Stream_Some_, I_Stream_Some, g3, get_, g1, decide_true, cond_true, at_int (List.getElem?_eq_getElem hlt)]
theorem Stream_Flip_gives {b : Int} {s : G_Stream} (hs : SOk b s) (n : Int) (hb : b ≤ 1099511627776) (hn : n ≤ 1099511627776) :
  ∃ f s', SOk (b + 1) s' ∧ ∀ (R : Type) (k : Bool → G_Stream → Option R), Stream_Flip s n k = k f s' := by
 obtain ⟨r, s', g1, g2, g4, g3⟩ := Stream_Next_gives hs n hb hn
 exact ⟨r == 0, s', g4, fun R k => by simp only [Stream_Flip, Stream_Flip_, I_Stream_Flip, g3]⟩
def callsL : List (List UInt8) := [[], [107, 49], [75, 49, 65, 66], [107, 49, 97, 98, 47], [49, 97], [107, 49, 97, 98, 47, 109, 109, 47, 112], [107, 49, 97, 98], [107, 49, 97, 97], [107, 49, 97, 98, 47, 52], [111, 104, 50, 97, 98, 99], [111, 104, 50, 97, 98, 100], [119, 49, 97, 119], [110, 49, 109, 109], [103, 51, 120, 121, 122, 47, 112]]
theorem sub_mem {α : Type} [BEq α] [LawfulBEq α] {xs ys : List α} {x : α} (h : x ∈ xs) (hs : xs.all (fun y => ys.contains y) = true) : x ∈ ys := by
 have := List.all_eq_true.1 hs x h
 simpa using this
theorem Stream_ACall_gives {b : Int} {s : G_Stream} (hs : SOk b s) (hb : b ≤ 1099511627000) :
  ∃ r s', r ∈ callsL ∧ SOk (b + 2) s' ∧ ∀ (R : Type) (k : List UInt8 → G_Stream → Option R), Stream_ACall s k = k r s' := by
 obtain ⟨f, s1, h1, e1⟩ := Stream_Flip_gives hs 60 (by omega) (by omega)
 cases f with
 | true =>
  obtain ⟨r, s2, hr, h2, e2⟩ := Stream_Some_gives h1 [[], [107, 49], [75, 49, 65, 66], [107, 49, 97, 98, 47], [49, 97], [107, 49, 97, 98, 47, 109, 109, 47, 112]] (by omega) (by simp) (by simp)
  exact ⟨r, s2, sub_mem hr (by decide +kernel), h2.mono (by omega), fun R k => by simp only [Stream_ACall, Stream_ACall_, I_Stream_ACall, e1, cond_true, e2]⟩
 | false =>
  obtain ⟨r, s2, hr, h2, e2⟩ := Stream_Some_gives h1 [[107, 49, 97, 98], [107, 49, 97, 97], [107, 49, 97, 98, 47, 52], [111, 104, 50, 97, 98, 99], [111, 104, 50, 97, 98, 100], [119, 49, 97, 119], [110, 49, 109, 109], [103, 51, 120, 121, 122, 47, 112]] (by omega) (by simp) (by simp)
  exact ⟨r, s2, sub_mem hr (by decide +kernel), h2.mono (by omega), fun R k => by simp only [Stream_ACall, Stream_ACall_, I_Stream_ACall, e1, cond_false, e2]⟩
theorem Stream_Odd_gives {b : Int} {s : G_Stream} (hs : SOk b s) (lo hi : Int) (hb : b ≤ 1099511627000) (h1 : -1000000000000 ≤ lo) (h2 : hi ≤ 1000000000000) (h3 : lo ≤ hi) (h4 : hi - lo ≤ 1000000000000) :
  ∃ r s', -1099511627776 ≤ r ∧ r ≤ 1099511627776 ∧ SOk (b + 2) s' ∧ ∀ (R : Type) (k : Int → G_Stream → Option R), Stream_Odd s lo hi k = k r s' := by
 obtain ⟨f, s1, g1, e1⟩ := Stream_Flip_gives hs 12 (by omega) (by omega)
 cases f with
 | true =>
  obtain ⟨r, s2, hr, g2, e2⟩ := Stream_Pick_gives g1 [lo - 1, hi + 1, lo, hi, -1099511627776, 1099511627776] (by omega) (by simp) (by simp)
  refine ⟨r, s2, ?_, ?_, g2.mono (by omega), fun R k => ?_⟩
  ·simp only [List.mem_cons, List.not_mem_nil, or_false] at hr; omega
  ·simp only [List.mem_cons, List.not_mem_nil, or_false] at hr; omega
  ·simp only [Stream_Odd, Stream_Odd_, I_Stream_Odd, e1, cond_true]
   rw [w64_eq (x := lo - 1) (by omega) (by omega), w64_eq (x := hi + 1) (by omega) (by omega), e2]
 | false =>
  obtain ⟨r, s2, r1, r2, g2, e2⟩ := Stream_Range_gives g1 lo hi (by omega) (by omega) (by omega) h3 (by omega)
  exact ⟨r, s2, by omega, by omega, g2.mono (by omega), fun R k => by simp only [Stream_Odd, Stream_Odd_, I_Stream_Odd, e1, cond_false, e2]⟩
abbrev Mid (x : Int) : Prop := -2199023255552 ≤ x ∧ x ≤ 2199023255552
end Go.Am
set_option linter.unusedVariables false
set_option linter.unusedSectionVars false
set_option linter.unusedSimpArgs false
set_option maxRecDepth 100000
namespace Go.Am
open Go Go.Proofs
variable [Fuel]
theorem strings_Compare_is (a b : List UInt8) (R : Type) (k : Int → Option R) : strings_Compare a b k = k (Lib.compareBytes a b) := rfl
theorem cmp_Compare__int_is (a b : Int) (R : Type) (k : Int → Option R) : cmp_Compare__int a b k = k (cmpI a b) := by
 have h1 : (a != a) = false := by simp
 have h2 : (b != b) = false := by simp
 simp only [cmp_Compare__int, cmp_Compare__int_, I_cmp_Compare__int, cmp_isNaN__int, cmp_isNaN__int_, h1, h2, cond_false, cmpI]
 cases decide (a < b) <;> cases decide (a > b) <;> rfl
theorem cmp_Or_loop (l : List Int) (hl : l.length < 1000000) : ∀ (xs : List Int) (n i : Nat), l.drop i = xs → xs.length < n → ∀ (R : Type) (k : Int → Option R),
  cmp_Or__int_L3 NN n 0 l (l.length : Int) (i : Int) (fun e8 e9 => k e8) (fun e10 => k e10) = k (orL xs)
 | _, 0, _, _, h, _, _ => by omega
 | [], n + 1, i, h, _, _, _ => by rw [cmp_Or__int_L3, ge_drop h]; rfl
 | x :: xs, n + 1, i, h, hn, R, k => by
  have h' := drop_cons h
  rw [cmp_Or__int_L3, lt_drop h]
  simp only [cond_true, get_drop h, orL]
  cases hx : x != 0 with
  | true => rfl
  | false =>
   simp only [cond_false]
   rw [w64_succ (by omega)]
   exact cmp_Or_loop l hl xs n (i + 1) h'.2.2.1 (by simp at hn; omega) R k
theorem cmp_Or__int_is (l : List Int) (hl : l.length < 1000000) (R : Type) (k : Int → Option R) : cmp_Or__int l k = k (orL l) :=
 cmp_Or_loop l hl l NN 0 rfl (by have := NN_ok; omega) R k
noncomputable def keyB (s : List UInt8) : Bool := (kit_IsKey s some).getD false
noncomputable def callB (s : List UInt8) : Bool := (call_Is s some).getD false
def okBool (a b : Option Bool) : Bool := match a, b with | some x, some y => x == y | _, _ => false
theorem okBool_is {a b : Option Bool} (h : okBool a b = true) : a = some (a.getD false) ∧ b = some (a.getD false) := by
 unfold okBool at h
 split at h
 ·simp at h; subst h; exact ⟨rfl, rfl⟩
 ·cases h
theorem someBool_is {a : Option Bool} (h : a.isSome = true) : a = some (a.getD false) := by
 cases a with
 | none => cases h
 | some x => rfl
theorem callsI_ok : callsL.all (fun s => (call_Is s some).isSome) = true := by
 obtain ⟨m, h, rfl⟩ := fuel_is ‹Fuel›
 kernel_rfl
theorem calls_ok : callsL.all (fun s => okBool (call_Is s some) (Q_Call s some)) = true := by
 obtain ⟨m, h, rfl⟩ := fuel_is ‹Fuel›
 kernel_rfl
theorem call_Is_is {s : List UInt8} (h : s ∈ callsL) (R : Type) (k : Bool → Option R) : call_Is s k = k (callB s) :=
 nat_bool ok_call_Is.na (args := [.d (.str s)]) (F := @call_Is _ s) (fun _ _ => rfl) (someBool_is (List.all_eq_true.1 callsI_ok s h)) R k
theorem Q_Call_is {s : List UInt8} (h : s ∈ callsL) (R : Type) (k : Bool → Option R) : Q_Call s k = k (callB s) :=
 nat_bool ok_Q_Call.na (args := [.d (.str s)]) (F := @Q_Call _ s) (fun _ _ => rfl) (okBool_is (List.all_eq_true.1 calls_ok s h)).2 R k
def inB (n lo hi : Int) : Bool := bif decide (lo ≤ n) then decide (n ≤ hi) else false
theorem kit_Outside_is (n lo hi : Int) (R : Type) (k : Bool → Option R) : kit_Outside n lo hi k = k (!inB n lo hi) := by
 unfold kit_Outside kit_Outside_ inB
 by_cases h1 : n < lo
 ·have h2 : ¬ lo ≤ n := by omega
  rw [decide_eq_true h1, decide_eq_false h2]; rfl
 ·have h2 : lo ≤ n := by omega
  rw [decide_eq_false h1, decide_eq_true h2]
  simp only [cond_false, cond_true]
  congr 1
  by_cases h3 : n ≤ hi
  ·rw [decide_eq_true h3, decide_eq_false (show ¬ n > hi by omega)]; rfl
  ·rw [decide_eq_false h3, decide_eq_true (show n > hi by omega)]; rfl
theorem Q_in_is (n lo hi : Int) (R : Type) (k : Bool → Option R) : Q_in n lo hi k = k (inB n lo hi) := by
 unfold Q_in Q_in_ inB
 cases decide (lo ≤ n) <;> rfl
def momB (x : Int) : Bool := inB x 0 345686399999
theorem kit_IsMoment_is (x : Int) (R : Type) (k : Bool → Option R) : kit_IsMoment x k = k (momB x) := by
 simp only [kit_IsMoment, kit_IsMoment_, I_kit_IsMoment, kit_Outside_is, Bool.not_not, momB]
theorem kit_IsMode_is (x : Int) (R : Type) (k : Bool → Option R) : kit_IsMode x k = k (inB x 1 3) := by
 simp only [kit_IsMode, kit_IsMode_, I_kit_IsMode, kit_Outside_is, Bool.not_not]
theorem Q_Moment_is (x : Int) (R : Type) (k : Bool → Option R) : Q_Moment x k = k (momB x) := by
 simp only [Q_Moment, Q_Moment_, I_Q_Moment, Q_in_is, momB]
def PrevAt {α : Type} (d : List α) (i : Nat) (p : Option α) : Prop := match p with | none => i = 0 | some q => 0 < i ∧ ∃ xs, d.drop (i - 1) = q :: xs
theorem prevAt_next {α : Type} {d : List α} {i : Nat} {c : α} {cs : List α} (h : d.drop i = c :: cs) : PrevAt d (i + 1) (some c) := ⟨by omega, cs, h⟩
end Go.Am
set_option linter.unusedVariables false
set_option linter.unusedSectionVars false
set_option linter.unusedSimpArgs false
set_option maxRecDepth 100000
namespace Go.Am
open Go Go.Proofs
variable [Fuel]
end Go.Am
