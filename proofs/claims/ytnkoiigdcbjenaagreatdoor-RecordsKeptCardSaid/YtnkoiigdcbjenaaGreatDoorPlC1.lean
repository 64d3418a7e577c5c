/- The plain law, in Lean alone: C1, E1. No condition: lemmas for the claim. -/
import Derived.Test.YtnkoiigdcbjenaaGreatDoorPlS1
import Derived.Test.YtnkoiigdcbjenaaGreatDoorPlB4
set_option linter.unusedVariables false
set_option linter.unusedSectionVars false
set_option linter.unusedSimpArgs false
set_option maxRecDepth 100000
namespace Go.Am
open Go Go.Proofs
variable [Fuel]
theorem strings_Compare_is (a b : List UInt8) (R : Type) (k : Int → Option R) : strings_Compare a b k = k (Lib.compareBytes a b) := rfl
theorem cmp_Compare__int_is (a b : Int) (R : Type) (k : Int → Option R) : cmp_Compare__int a b k = k (cmpI a b) := by
  have h1 : (a != a) = false := by simp
  have h2 : (b != b) = false := by simp
  simp only [cmp_Compare__int, cmp_Compare__int_, I_cmp_Compare__int, cmp_isNaN__int, cmp_isNaN__int_, h1, h2, cond_false, cmpI]
  cases decide (a < b) <;> cases decide (a > b) <;> rfl
theorem cmp_Or_loop (l : List Int) (hl : l.length < 1000000) : ∀ (xs : List Int) (n i : Nat), l.drop i = xs → xs.length < n → ∀ (R : Type) (k : Int → Option R),
    cmp_Or__int_L3 NN n 0 l (l.length : Int) (i : Int) (fun e8 e9 => k e8) (fun e10 => k e10) = k (orL xs)
  | _, 0, _, _, h, _, _ => by omega
  | [], n + 1, i, h, _, _, _ => by rw [cmp_Or__int_L3, ge_drop h]; rfl
  | x :: xs, n + 1, i, h, hn, R, k => by
    have h' := drop_cons h
    rw [cmp_Or__int_L3, lt_drop h]
    simp only [cond_true, get_drop h, orL]
    cases hx : x != 0 with
    | true => rfl
    | false =>
      simp only [cond_false]
      rw [w64_succ (by omega)]
      exact cmp_Or_loop l hl xs n (i + 1) h'.2.2.1 (by simp at hn; omega) R k
theorem cmp_Or__int_is (l : List Int) (hl : l.length < 1000000) (R : Type) (k : Int → Option R) : cmp_Or__int l k = k (orL l) :=
  cmp_Or_loop l hl l NN 0 rfl (by have := NN_ok; omega) R k
noncomputable def keyB (s : List UInt8) : Bool := (kit_IsKey s some).getD false
noncomputable def callB (s : List UInt8) : Bool := (call_Is s some).getD false
def okBool (a b : Option Bool) : Bool := match a, b with | some x, some y => x == y | _, _ => false
theorem okBool_is {a b : Option Bool} (h : okBool a b = true) : a = some (a.getD false) ∧ b = some (a.getD false) := by
  unfold okBool at h
  split at h
  · simp at h; subst h; exact ⟨rfl, rfl⟩
  · cases h
theorem calls_ok : callsL.all (fun s => okBool (call_Is s some) (Q_Call s some)) = true := by
  obtain ⟨m, h, rfl⟩ := fuel_is ‹Fuel›
  kernel_rfl
theorem call_Is_is {s : List UInt8} (h : s ∈ callsL) (R : Type) (k : Bool → Option R) : call_Is s k = k (callB s) :=
  nat_bool ok_call_Is.na (args := [.d (.str s)]) (F := @call_Is _ s) (fun _ _ => rfl) (okBool_is (List.all_eq_true.1 calls_ok s h)).1 R k
theorem Q_Call_is {s : List UInt8} (h : s ∈ callsL) (R : Type) (k : Bool → Option R) : Q_Call s k = k (callB s) :=
  nat_bool ok_Q_Call.na (args := [.d (.str s)]) (F := @Q_Call _ s) (fun _ _ => rfl) (okBool_is (List.all_eq_true.1 calls_ok s h)).2 R k
def inB (n lo hi : Int) : Bool := bif decide (lo ≤ n) then decide (n ≤ hi) else false
theorem inB_is {n lo hi : Int} : inB n lo hi = true ↔ lo ≤ n ∧ n ≤ hi := by
  unfold inB
  by_cases h : lo ≤ n <;> simp [h]
theorem kit_Outside_is (n lo hi : Int) (R : Type) (k : Bool → Option R) : kit_Outside n lo hi k = k (!inB n lo hi) := by
  unfold kit_Outside kit_Outside_ inB
  by_cases h1 : n < lo
  · have h2 : ¬ lo ≤ n := by omega
    rw [decide_eq_true h1, decide_eq_false h2]; rfl
  · have h2 : lo ≤ n := by omega
    rw [decide_eq_false h1, decide_eq_true h2]
    simp only [cond_false, cond_true]
    congr 1
    by_cases h3 : n ≤ hi
    · rw [decide_eq_true h3, decide_eq_false (show ¬ n > hi by omega)]; rfl
    · rw [decide_eq_false h3, decide_eq_true (show n > hi by omega)]; rfl
theorem Q_in_is (n lo hi : Int) (R : Type) (k : Bool → Option R) : Q_in n lo hi k = k (inB n lo hi) := by
  unfold Q_in Q_in_ inB
  cases decide (lo ≤ n) <;> rfl
def PrevAt {α : Type} (d : List α) (i : Nat) (p : Option α) : Prop := match p with | none => i = 0 | some q => 0 < i ∧ ∃ xs, d.drop (i - 1) = q :: xs
theorem prevAt_next {α : Type} {d : List α} {i : Nat} {c : α} {cs : List α} (h : d.drop i = c :: cs) : PrevAt d (i + 1) (some c) := ⟨by omega, cs, h⟩
end Go.Am
set_option linter.unusedVariables false
set_option linter.unusedSectionVars false
set_option linter.unusedSimpArgs false
set_option maxRecDepth 100000
namespace Go.Am
open Go Go.Proofs
variable [Fuel]
theorem law_errs_loop (l : List Int) (hl : l.length < 1000000) : ∀ (xs : List Int) (n i : Nat), l.drop i = xs → xs.length < n → ∀ (R : Type) (k : Int → Option R),
    law_errs_L2 NN n l (l.length : Int) (i : Int) k (k 0) = k (orL xs)
  | _, 0, _, _, h, _, _ => by omega
  | [], n + 1, i, h, _, _, _ => by rw [law_errs_L2, ge_drop h]; rfl
  | x :: xs, n + 1, i, h, hn, R, k => by
    have h' := drop_cons h
    have ih := law_errs_loop l hl xs n (i + 1) h'.2.2.1 (by simp at hn; omega) R k
    rw [law_errs_L2, lt_drop h, w64_succ (by omega), ih]
    simp only [cond_true, get_drop h, orL]
    cases x != 0 <;> rfl
theorem law_errs_is (l : List Int) (hl : l.length < 1000000) (R : Type) (k : Int → Option R) : law_errs l k = k (orL l) :=
  law_errs_loop l hl l NN 0 rfl (by have := NN_ok; omega) R k
end Go.Am
