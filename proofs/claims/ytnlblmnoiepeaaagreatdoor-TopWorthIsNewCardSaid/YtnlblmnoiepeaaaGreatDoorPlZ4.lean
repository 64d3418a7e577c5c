/- The plain law, in Lean alone: Z4, Z5, Z6. No condition: lemmas for the claim. -/
import Derived.Test.YtnlblmnoiepeaaaGreatDoorPlZ1
import Derived.Test.YtnlblmnoiepeaaaGreatDoorPlS1
import Derived.Test.YtnlblmnoiepeaaaGreatDoorPlR4
set_option linter.unusedVariables false
set_option linter.unusedSectionVars false
set_option linter.unusedSimpArgs false
set_option maxRecDepth 100000
namespace Go.Am
open Go Go.Proofs
variable [Fuel]
def bandsOf (b : List G_Band) (l : List G_Spot) : List Int := l.map fun s => bandI b s.f_Hertz
theorem heardS_band {b : List G_Band} {life at0 : Int} {l : List G_Spot} {s : G_Spot} (h : s ∈ heardS b life at0 l) : s ∈ l ∧ cntS b life at0 s = true := heardR_sub h
theorem cntS_band {b : List G_Band} {life at0 : Int} {s : G_Spot} (h : cntS b life at0 s = true) : ¬ bandI b s.f_Hertz < 0 := fun hn => by
 unfold cntS at h
 rw [decide_eq_true hn] at h
 simp at h
end Go.Am
set_option linter.unusedVariables false
set_option linter.unusedSectionVars false
set_option linter.unusedSimpArgs false
set_option maxRecDepth 100000
namespace Go.Am
open Go Go.Proofs
variable [Fuel]
theorem heardS_mid {b : List G_Band} {life at0 : Int} {l : List G_Spot} : ∀ s ∈ heardS b life at0 l, ¬ bandI b s.f_Hertz < 0 := fun s hs => cntS_band (heardS_band hs).2
end Go.Am
set_option linter.unusedVariables false
set_option linter.unusedSectionVars false
set_option linter.unusedSimpArgs false
set_option maxRecDepth 100000
namespace Go.Am
open Go Go.Proofs
variable [Fuel]
def farW (h : Int) (s : G_Spot) : Int := if (w64 (h - s.f_Hertz)) > (w64 (s.f_Hertz - h)) then (w64 (h - s.f_Hertz)) else (w64 (s.f_Hertz - h))
theorem z30z_loop (m : Nat) (hm : m ≤ 20) : ∀ (n i : Nat) (s : G_Stream) (b : Int), 5 - i < n → SOk (b + 20 * (m : Int) * (i : Int)) s → i ≤ 5 → b ≤ 1000 →
  (∃ (r : List G_Spot) (s' : G_Stream), SOk (b + 2000) s' ∧ r.length ≤ m ∧ (∀ c ∈ r, FineSp c) ∧ faultS r = 0 ∧ ∀ (R : Type) (e0 : G_Stream → List G_Spot → Option R) (e1 : G_Stream → Option R), z30z_L2 I_z30z n (m : Int) (i : Int) s e0 e1 = e0 s' r) ∨
  ∃ s' : G_Stream, SOk (b + 2000) s' ∧ ∀ (R : Type) (e0 : G_Stream → List G_Spot → Option R) (e1 : G_Stream → Option R), z30z_L2 I_z30z n (m : Int) (i : Int) s e0 e1 = e1 s'
 | 0, i, _, _, h, _, _, _ => by omega
 | n + 1, i, s, b, h, hs, hi, hb => by
  have hmi : 20 * (m : Int) * (i : Int) ≤ 2000 := by
   have : (i : Int) = 0 ∨ (i : Int) = 1 ∨ (i : Int) = 2 ∨ (i : Int) = 3 ∨ (i : Int) = 4 ∨ (i : Int) = 5 := by omega
   rcases this with e | e | e | e | e | e <;> rw [e] <;> omega
  by_cases hc : i < 5
  ·obtain ⟨r, s1, z1, hr, hf, e1⟩ := z48z_gives hs (by omega) m hm
   have z1' : SOk (b + 20 * (m : Int) * ((i + 1 : Nat) : Int)) s1 := z1.mono (by
    have : (i : Int) = 0 ∨ (i : Int) = 1 ∨ (i : Int) = 2 ∨ (i : Int) = 3 ∨ (i : Int) = 4 := by omega
    push_cast
    rcases this with e | e | e | e | e <;> rw [e] <;> omega)
   have hmi1 : 20 * (m : Int) * ((i + 1 : Nat) : Int) ≤ 2000 := by
    have : (i : Int) = 0 ∨ (i : Int) = 1 ∨ (i : Int) = 2 ∨ (i : Int) = 3 ∨ (i : Int) = 4 := by omega
    push_cast
    rcases this with e | e | e | e | e <;> rw [e] <;> omega
   have hq := fun (R : Type) (k : Int → Option R) => z49z_is hf (show r.length ≤ 100000 by omega) R k
   cases h0 : faultS r == 0 with
   | true =>
    refine .inl ⟨r, s1, z1'.mono (by omega), hr, hf, by simpa using h0, fun R e0 e1' => ?_⟩
    rw [z30z_L2]
    simp only [I_z30z, decide_eq_true (show (i : Int) < 5 by omega), cond_true, e1, hq, h0]
   | false =>
    have unf : ∀ (R : Type) (e0 : G_Stream → List G_Spot → Option R) (e1 : G_Stream → Option R), z30z_L2 I_z30z (n + 1) (m : Int) (i : Int) s e0 e1 = z30z_L2 I_z30z n (m : Int) ((i + 1 : Nat) : Int) s1 e0 e1 := fun R e0 e1' => by
     rw [z30z_L2]
     simp only [I_z30z, decide_eq_true (show (i : Int) < 5 by omega), cond_true, e1, hq, h0, cond_false]
     rw [w64_succ (by omega)]
    rcases z30z_loop m hm n (i + 1) s1 b (by omega) z1' (by omega) hb with ⟨r', s', g1, g2, g3, g4, g5⟩ | ⟨s', g1, g2⟩
    ·exact .inl ⟨r', s', g1, g2, g3, g4, fun R e0 e1' => by rw [unf, g5]⟩
    ·exact .inr ⟨s', g1, fun R e0 e1' => by rw [unf, g2]⟩
  ·refine .inr ⟨s, hs.mono (by omega), fun R e0 e1 => ?_⟩
   rw [z30z_L2, decide_eq_false (by omega)]; rfl
theorem z30z_gives {b : Int} {s : G_Stream} (hs : SOk b s) (hb : b ≤ 1000) (m : Nat) (hm : m ≤ 20) :
  ∃ (r : List G_Spot) (s' : G_Stream), SOk (b + 2000) s' ∧ r.length ≤ m ∧ (∀ c ∈ r, FineSp c) ∧ faultS r = 0 ∧ ∀ (R : Type) (k : List G_Spot → G_Stream → Option R), z30z s (m : Int) k = k r s' := by
 rcases z30z_loop m hm NN 0 s b (by have := NN_ok; omega) (hs.mono (by omega)) (by omega) hb with ⟨r, s', g1, g2, g3, g4, g5⟩ | ⟨s', g1, g2⟩
 ·exact ⟨r, s', g1, g2, g3, g4, fun R k => g5 R _ _⟩
 ·exact ⟨[], s', g1, by simp, fun c h => (by cases h), rfl, fun R k => g2 R _ _⟩
end Go.Am
