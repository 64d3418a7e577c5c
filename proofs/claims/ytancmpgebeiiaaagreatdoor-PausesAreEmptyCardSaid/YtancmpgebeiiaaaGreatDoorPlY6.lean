/- The plain law, in Lean alone: Y6. No condition: lemmas for the claim. -/
import Derived.Test.YtancmpgebeiiaaaGreatDoorPlY0
import Derived.Test.YtancmpgebeiiaaaGreatDoorPlC2
import Derived.Test.YtancmpgebeiiaaaGreatDoorPlH4
import Derived.Test.YtancmpgebeiiaaaGreatDoorPlB4
set_option linter.unusedVariables false
set_option linter.unusedSectionVars false
set_option linter.unusedSimpArgs false
set_option maxRecDepth 100000
namespace Go.Am
open Go Go.Proofs
variable [Fuel]
theorem RightContacts_loop (m : Nat) (hm : m ≤ 20) : ∀ (j n i : Nat) (b : Int) (s : G_Stream), i + j = 5 → j < n → SOk b s → b + 700 * (j : Int) ≤ 900000 →
  ∃ (r : List G_Contact) (s' : G_Stream), SOk (b + 700 * (j : Int)) s' ∧ r.length ≤ m ∧ (∀ c ∈ r, Fine c) ∧ faultL r = 0 ∧ ∀ (R : Type) (k : List G_Contact → G_Stream → Option R), Stream_RightContacts_L2 I_Stream_RightContacts n (m : Int) (i : Int) s (fun e12 e13 => k e13 e12) (fun e14 => k [] e14) = k r s'
 | _, 0, _, _, _, _, h, _, _ => by omega
 | 0, n + 1, i, b, s, hi, _, hs, hb => ⟨[], s, hs.mono (by omega), by simp, (fun c h => by cases h), rfl, fun R k => by rw [Stream_RightContacts_L2, decide_eq_false (by omega)]; rfl⟩
 | j + 1, n + 1, i, b, s, hi, hn, hs, hb => by
  obtain ⟨r, s1, z1, l1, f1, e1⟩ := Stream_Contacts_gives hs (by omega) m hm
  have hm' : (m : Int) ≤ 20 := by omega
  have e1' : ∀ {R : Type} (k : List G_Contact → G_Stream → Option R), I_Stream_RightContacts.Stream_Contacts s (m : Int) k = k r s1 := fun k => e1 _ k
  have hq : ∀ {R : Type} (k : Int → Option R), I_Stream_RightContacts.Q_LogFault r k = k (faultL r) := fun k => Q_LogFault_is (fun c hc => (f1 c hc).1) (by omega) _ k
  by_cases h0 : faultL r = 0
  ·refine ⟨r, s1, z1.mono (by omega), l1, fun c hc => (f1 c hc).1, h0, fun R k => ?_⟩
   rw [Stream_RightContacts_L2, decide_eq_true (by omega)]
   simp only [cond_true, e1', hq, h0, beq_self_eq_true]
  ·obtain ⟨r', s', g1, g2, g3, g4, g5⟩ := RightContacts_loop m hm j n (i + 1) (b + 700) s1 (by omega) (by omega) (z1.mono (by omega)) (by omega)
   refine ⟨r', s', g1.mono (by omega), g2, g3, g4, fun R k => ?_⟩
   rw [Stream_RightContacts_L2, decide_eq_true (by omega)]
   simp only [cond_true, e1', hq, beq_eq_false_iff_ne.2 h0, cond_false, w64_succ (show i < 4611686018427387904 by omega), g5]
theorem RightContacts_gives {b : Int} {s : G_Stream} (hs : SOk b s) (hb : b ≤ 100000) (m : Nat) (hm : m ≤ 20) :
  ∃ (r : List G_Contact) (s' : G_Stream), SOk (b + 3500) s' ∧ r.length ≤ m ∧ (∀ c ∈ r, Fine c) ∧ faultL r = 0 ∧ ∀ (R : Type) (k : List G_Contact → G_Stream → Option R), Stream_RightContacts s (m : Int) k = k r s' := by
 obtain ⟨r, s', g1, g2, g3, g4, g5⟩ := RightContacts_loop m hm 5 NN 0 b s (by omega) (by have := NN_ok; omega) hs (by omega)
 exact ⟨r, s', g1.mono (by omega), g2, g3, g4, fun R k => g5 R k⟩
theorem faultC_chk : ∀ (l : List G_Contact) (p : Option G_Contact), faultC p l = 0 → ∀ c ∈ l, chk c = 0
 | [], _, _, c, h => by cases h
 | x :: xs, p, h, c, hc => by
  unfold faultC at h
  cases hq : chk x != 0 with
  | true => rw [hq] at h; simp only [cond_true] at h; rw [h] at hq; cases hq
  | false =>
   rw [hq] at h
   simp only [cond_false] at h
   have h0 : chk x = 0 := by simpa using hq
   have h2 : faultC (some x) xs = 0 := by
    cases p with
    | none => exact h
    | some q =>
     simp only at h
     cases hd : decide (cmpC q x ≥ 0) with
     | true => rw [hd] at h; simp only [cond_true] at h; omega
     | false => rw [hd] at h; exact h
   rcases List.mem_cons.1 hc with rfl | hc
   ·exact h0
   ·exact faultC_chk xs (some x) h2 c hc
theorem faultL_parts {l : List G_Contact} (h : faultL l = 0) (hl : l.length ≤ 1000) : (∀ c ∈ l, chk c = 0) ∧ l.Pairwise fun a b => cmpC a b < 0 := by
 unfold faultL at h
 rw [decide_eq_false (show ¬ ((l.length : Int) > 2000) by omega)] at h
 exact ⟨faultC_chk l none h, (faultC_one l none h).1⟩
end Go.Am
