/- The plain law, in Lean alone: H4. No condition: lemmas for the claim. -/
import Derived.Test.YtancmpgebeiiaaaGreatDoorPlH2
set_option linter.unusedVariables false
set_option linter.unusedSectionVars false
set_option linter.unusedSimpArgs false
set_option maxRecDepth 100000
namespace Go.Am
open Go Go.Proofs
variable [Fuel]
theorem faultC_one : ∀ (l : List G_Contact) (p : Option G_Contact), faultC p l = 0 → l.Pairwise (fun x y => cmpC x y < 0) ∧ ∀ q, p = some q → ∀ c ∈ l, cmpC q c < 0
 | [], p, _ => ⟨.nil, fun q _ c h => by cases h⟩
 | c :: cs, p, h => by
  have lt_trans : ∀ x y z, cmpC x y < 0 → cmpC y z < 0 → cmpC x z < 0 := fun x y z h1 h2 => by
   have a1 := ords_cmpC.trans x y z (by omega) (by omega)
   by_cases h3 : cmpC x z = 0
   ·have a2 := ords_cmpC.anti x z
    have a3 := ords_cmpC.trans z x y (by omega) (by omega)
    have a4 := ords_cmpC.anti y z
    omega
   ·omega
  unfold faultC at h
  cases hc : chk c != 0 with
  | true => rw [hc] at h; simp only [cond_true] at h; rw [h] at hc; cases hc
  | false =>
   rw [hc] at h
   simp only [cond_false] at h
   have main : faultC (some c) cs = 0 ∧ ∀ q, p = some q → cmpC q c < 0 := by
    cases p with
    | none => exact ⟨h, fun q hq => by cases hq⟩
    | some q =>
     simp only at h
     cases hd : decide (cmpC q c ≥ 0) with
     | true => rw [hd] at h; cases h
     | false => rw [hd] at h; exact ⟨h, fun q' hq => by cases hq; simpa using hd⟩
   obtain ⟨h1, h2⟩ := faultC_one cs (some c) main.1
   refine ⟨List.pairwise_cons.2 ⟨fun y hy => h2 c rfl y hy, h1⟩, fun q hq y hy => ?_⟩
   rcases List.mem_cons.1 hy with rfl | hy
   ·exact main.2 q hq
   ·exact lt_trans q c y (main.2 q hq) (h2 c rfl y hy)
end Go.Am
