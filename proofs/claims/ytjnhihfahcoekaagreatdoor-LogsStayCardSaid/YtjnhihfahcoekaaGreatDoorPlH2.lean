/- The plain law, in Lean alone: H2, H3. No condition: lemmas for the claim. -/
import Derived.Test.YtjnhihfahcoekaaGreatDoorPlH1
import Derived.Test.YtjnhihfahcoekaaGreatDoorPlB4
import Derived.Test.YtjnhihfahcoekaaGreatDoorPlS1
set_option linter.unusedVariables false
set_option linter.unusedSectionVars false
set_option linter.unusedSimpArgs false
set_option maxRecDepth 100000
namespace Go.Am
open Go Go.Proofs
variable [Fuel]
abbrev IncH (l : List G_Change) : Prop := l.Pairwise fun x y => x.f_No < y.f_No
structure RightH (p : Option G_Change) (c : G_Change) : Prop where
 no : inB c.f_No 1 1000 = true
 kind : inB c.f_Kind 1 3 = true
 was : c.f_Kind ≠ 1 → chk c.f_Was = 0
 is : c.f_Kind ≠ 2 → chk c.f_Is = 0
 form : formH c = false
 low : lowH p c = false
theorem chkH_zero {p : Option G_Change} {c : G_Change} (h : chkH p c = 0) : RightH p c := by
 unfold chkH at h
 cases h1 : inB c.f_No 1 1000 with
 | false => simp [h1] at h
 | true =>
  cases h2 : inB c.f_Kind 1 3 with
  | false => simp [h1, h2] at h
  | true =>
   cases h3 : ((c.f_Kind != 1) && (chk c.f_Was != 0)) with
   | true =>
    simp only [h1, h2, h3, Bool.not_true, cond_false, cond_true] at h
    rw [h] at h3; simp at h3
   | false =>
    cases h4 : ((c.f_Kind != 2) && (chk c.f_Is != 0)) with
    | true =>
     simp only [h1, h2, h3, h4, Bool.not_true, cond_false, cond_true] at h
     rw [h] at h4; simp at h4
    | false =>
     cases h5 : formH c with
     | true => simp [h1, h2, h3, h4, h5] at h
     | false =>
      cases h6 : lowH p c with
      | true => simp [h1, h2, h3, h4, h5, h6] at h
      | false =>
       refine ⟨h1, h2, fun hk => ?_, fun hk => ?_, h5, h6⟩
       ·have : (c.f_Kind != 1) = true := by simpa using hk
        rw [this, Bool.true_and] at h3; simpa using h3
       ·have : (c.f_Kind != 2) = true := by simpa using hk
        rw [this, Bool.true_and] at h4; simpa using h4
theorem faultHs_inc : ∀ (l : List G_Change) (p : Option G_Change), faultHs p l = 0 → IncH l ∧ (∀ q, p = some q → ∀ c ∈ l, q.f_No < c.f_No) ∧ ∀ c ∈ l, ∃ q, chkH q c = 0
 | [], p, _ => ⟨.nil, fun q _ c h => (by cases h), fun c h => by cases h⟩
 | c :: cs, p, h => by
  unfold faultHs at h
  cases hc : chkH p c != 0 with
  | true => rw [hc] at h; simp at h; rw [h] at hc; cases hc
  | false =>
   rw [hc] at h
   simp only [cond_false] at h
   obtain ⟨h1, h2, h3⟩ := faultHs_inc cs (some c) h
   have hz : chkH p c = 0 := by simpa using hc
   have hlow : lowH p c = false := (chkH_zero hz).low
   refine ⟨List.pairwise_cons.2 ⟨fun y hy => h2 c rfl y hy, h1⟩, fun q hq y hy => ?_, fun y hy => ?_⟩
   ·subst hq
    have hqc : q.f_No < c.f_No := by simpa [lowH] using hlow
    rcases List.mem_cons.1 hy with rfl | hy
    ·exact hqc
    ·have := h2 c rfl y hy; omega
   ·rcases List.mem_cons.1 hy with rfl | hy
    ·exact ⟨p, hz⟩
    ·exact h3 y hy
theorem faultH_inc {l : List G_Change} (h : faultH l = 0) : IncH l ∧ l.length ≤ 1000 ∧ ∀ c ∈ l, ∃ q, chkH q c = 0 := by
 unfold faultH at h
 cases hl : decide ((l.length : Int) > 1000) with
 | true => rw [hl] at h; cases h
 | false =>
  rw [hl] at h
  obtain ⟨h1, _, h3⟩ := faultHs_inc l none h
  exact ⟨h1, by simp at hl; omega, h3⟩
end Go.Am
set_option linter.unusedVariables false
set_option linter.unusedSectionVars false
set_option linter.unusedSimpArgs false
set_option maxRecDepth 100000
namespace Go.Am
open Go Go.Proofs
variable [Fuel]
theorem equalH_is {l : List G_Change} (hl : l.length ≤ 1000000) (R : Type) (k : Bool → Option R) : z42z l l k = k true := by
 rw [li_z42z]; exact sEqual_same (by have := NN_ok; omega) (by have := NN_ok; omega) (fun x => by rw [(eq_G_Change_is x x).2 rfl]; rfl) k
end Go.Am
