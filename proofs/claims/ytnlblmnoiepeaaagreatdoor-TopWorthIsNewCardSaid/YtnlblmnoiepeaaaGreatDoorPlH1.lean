/- The plain law, in Lean alone: H1, H2, H3, H4, Y6. No condition: lemmas for the claim. -/
import Derived.Test.YtnlblmnoiepeaaaGreatDoorPlS1
import Derived.Test.YtnlblmnoiepeaaaGreatDoorPlB4
import Derived.Test.YtnlblmnoiepeaaaGreatDoorPlR4
set_option linter.unusedVariables false
set_option linter.unusedSectionVars false
set_option linter.unusedSimpArgs false
set_option maxRecDepth 100000
namespace Go.Am
open Go Go.Proofs
variable [Fuel]
end Go.Am
set_option linter.unusedVariables false
set_option linter.unusedSectionVars false
set_option linter.unusedSimpArgs false
set_option maxRecDepth 100000
namespace Go.Am
open Go Go.Proofs
variable [Fuel]
end Go.Am
set_option linter.unusedVariables false
set_option linter.unusedSectionVars false
set_option linter.unusedSimpArgs false
set_option maxRecDepth 100000
namespace Go.Am
open Go Go.Proofs
variable [Fuel]
end Go.Am
set_option linter.unusedVariables false
set_option linter.unusedSectionVars false
set_option linter.unusedSimpArgs false
set_option maxRecDepth 100000
namespace Go.Am
open Go Go.Proofs
variable [Fuel]
theorem faultC_one : ∀ (l : List G_Contact) (p : Option G_Contact), faultC p l = 0 → l.Pairwise (fun x y => cmpC x y < 0) ∧ ∀ q, p = some q → ∀ c ∈ l, cmpC q c < 0
 | [], p, _ => ⟨.nil, fun q _ c h => by cases h⟩
 | c :: cs, p, h => by
  have lt_trans : ∀ x y z, cmpC x y < 0 → cmpC y z < 0 → cmpC x z < 0 := fun x y z h1 h2 => by
   have a1 := ords_cmpC.trans x y z (by omega) (by omega)
   by_cases h3 : cmpC x z = 0
   ·have a2 := ords_cmpC.anti x z
    have a3 := ords_cmpC.trans z x y (by omega) (by omega)
    have a4 := ords_cmpC.anti y z
    omega
   ·omega
  unfold faultC at h
  cases hc : chk c != 0 with
  | true => rw [hc] at h; simp only [cond_true] at h; rw [h] at hc; cases hc
  | false =>
   rw [hc] at h
   simp only [cond_false] at h
   have main : faultC (some c) cs = 0 ∧ ∀ q, p = some q → cmpC q c < 0 := by
    cases p with
    | none => exact ⟨h, fun q hq => by cases hq⟩
    | some q =>
     simp only at h
     cases hd : decide (cmpC q c ≥ 0) with
     | true => rw [hd] at h; cases h
     | false => rw [hd] at h; exact ⟨h, fun q' hq => by cases hq; simpa using hd⟩
   obtain ⟨h1, h2⟩ := faultC_one cs (some c) main.1
   refine ⟨List.pairwise_cons.2 ⟨fun y hy => h2 c rfl y hy, h1⟩, fun q hq y hy => ?_⟩
   rcases List.mem_cons.1 hy with rfl | hy
   ·exact main.2 q hq
   ·exact lt_trans q c y (main.2 q hq) (h2 c rfl y hy)
end Go.Am
set_option linter.unusedVariables false
set_option linter.unusedSectionVars false
set_option linter.unusedSimpArgs false
set_option maxRecDepth 100000
namespace Go.Am
open Go Go.Proofs
variable [Fuel]
theorem RightContacts_loop (m : Nat) (hm : m ≤ 20) : ∀ (j n i : Nat) (b : Int) (s : G_Stream), i + j = 5 → j < n → SOk b s → b + 700 * (j : Int) ≤ 900000 →
  ∃ (r : List G_Contact) (s' : G_Stream), SOk (b + 700 * (j : Int)) s' ∧ r.length ≤ m ∧ (∀ c ∈ r, Fine c) ∧ faultL r = 0 ∧ ∀ (R : Type) (k : List G_Contact → G_Stream → Option R), z29z_L2 I_z29z n (m : Int) (i : Int) s (fun e12 e13 => k e13 e12) (fun e14 => k [] e14) = k r s'
 | _, 0, _, _, _, _, h, _, _ => by omega
 | 0, n + 1, i, b, s, hi, _, hs, hb => ⟨[], s, hs.mono (by omega), by simp, (fun c h => by cases h), rfl, fun R k => by rw [z29z_L2, decide_eq_false (by omega)]; rfl⟩
 | j + 1, n + 1, i, b, s, hi, hn, hs, hb => by
  obtain ⟨r, s1, z1, l1, f1, e1⟩ := z11z_gives hs (by omega) m hm
  have hm' : (m : Int) ≤ 20 := by omega
  have e1' : ∀ {R : Type} (k : List G_Contact → G_Stream → Option R), I_z29z.z11z s (m : Int) k = k r s1 := fun k => e1 _ k
  have hq : ∀ {R : Type} (k : Int → Option R), I_z29z.Q_LogFault r k = k (faultL r) := fun k => Q_LogFault_is (fun c hc => (f1 c hc).1) (by omega) _ k
  by_cases h0 : faultL r = 0
  ·refine ⟨r, s1, z1.mono (by omega), l1, fun c hc => (f1 c hc).1, h0, fun R k => ?_⟩
   rw [z29z_L2, decide_eq_true (by omega)]
   simp only [cond_true, e1', hq, h0, beq_self_eq_true]
  ·obtain ⟨r', s', g1, g2, g3, g4, g5⟩ := RightContacts_loop m hm j n (i + 1) (b + 700) s1 (by omega) (by omega) (z1.mono (by omega)) (by omega)
   refine ⟨r', s', g1.mono (by omega), g2, g3, g4, fun R k => ?_⟩
   rw [z29z_L2, decide_eq_true (by omega)]
   simp only [cond_true, e1', hq, beq_eq_false_iff_ne.2 h0, cond_false, w64_succ (show i < 4611686018427387904 by omega), g5]
theorem RightContacts_gives {b : Int} {s : G_Stream} (hs : SOk b s) (hb : b ≤ 100000) (m : Nat) (hm : m ≤ 20) :
  ∃ (r : List G_Contact) (s' : G_Stream), SOk (b + 3500) s' ∧ r.length ≤ m ∧ (∀ c ∈ r, Fine c) ∧ faultL r = 0 ∧ ∀ (R : Type) (k : List G_Contact → G_Stream → Option R), z29z s (m : Int) k = k r s' := by
 obtain ⟨r, s', g1, g2, g3, g4, g5⟩ := RightContacts_loop m hm 5 NN 0 b s (by omega) (by have := NN_ok; omega) hs (by omega)
 exact ⟨r, s', g1.mono (by omega), g2, g3, g4, fun R k => g5 R k⟩
theorem faultC_chk : ∀ (l : List G_Contact) (p : Option G_Contact), faultC p l = 0 → ∀ c ∈ l, chk c = 0
 | [], _, _, c, h => by cases h
 | x :: xs, p, h, c, hc => by
  unfold faultC at h
  cases hq : chk x != 0 with
  | true => rw [hq] at h; simp only [cond_true] at h; rw [h] at hq; cases hq
  | false =>
   rw [hq] at h
   simp only [cond_false] at h
   have h0 : chk x = 0 := by simpa using hq
   have h2 : faultC (some x) xs = 0 := by
    cases p with
    | none => exact h
    | some q =>
     simp only at h
     cases hd : decide (cmpC q x ≥ 0) with
     | true => rw [hd] at h; simp only [cond_true] at h; omega
     | false => rw [hd] at h; exact h
   rcases List.mem_cons.1 hc with rfl | hc
   ·exact h0
   ·exact faultC_chk xs (some x) h2 c hc
theorem faultC_of : ∀ (l : List G_Contact) (p : Option G_Contact), (∀ c ∈ l, chk c = 0) → l.Pairwise (fun a b => cmpC a b < 0) → (∀ q, p = some q → ∀ c ∈ l, cmpC q c < 0) → faultC p l = 0
 | [], _, _, _, _ => rfl
 | c :: cs, p, hc, hi, hp => by
  have h1 := List.pairwise_cons.1 hi
  have ih := faultC_of cs (some c) (fun x hx => hc x (by simp [hx])) h1.2 (fun q hq x hx => by cases hq; exact h1.1 x hx)
  unfold faultC
  rw [hc c (by simp)]
  simp only [bne_self_eq_false, cond_false]
  cases p with
  | none => exact ih
  | some q =>
   simp only
   rw [decide_eq_false (show ¬ cmpC q c ≥ 0 by have := hp q rfl c (by simp); omega)]
   exact ih
theorem faultL_parts {l : List G_Contact} (h : faultL l = 0) (hl : l.length ≤ 1000) : (∀ c ∈ l, chk c = 0) ∧ l.Pairwise fun a b => cmpC a b < 0 := by
 unfold faultL at h
 rw [decide_eq_false (show ¬ ((l.length : Int) > 2000) by omega)] at h
 exact ⟨faultC_chk l none h, (faultC_one l none h).1⟩
theorem faultL_of {l : List G_Contact} (h1 : ∀ c ∈ l, chk c = 0) (h2 : l.Pairwise fun a b => cmpC a b < 0) (hl : l.length ≤ 1000) : faultL l = 0 := by
 unfold faultL
 rw [decide_eq_false (show ¬ ((l.length : Int) > 2000) by omega)]
 exact faultC_of l none h1 h2 (fun q hq => by cases hq)
end Go.Am
