/- The plain law, in Lean alone: Y4. No condition: lemmas for the claim. -/
import Derived.Test.YtjnhihfahcoekaaGreatDoorPlY1
import Derived.Test.YtjnhihfahcoekaaGreatDoorPlH4
import Derived.Test.YtjnhihfahcoekaaGreatDoorPlB4
set_option linter.unusedVariables false
set_option linter.unusedSectionVars false
set_option linter.unusedSimpArgs false
set_option maxRecDepth 100000
namespace Go.Am
open Go Go.Proofs
variable [Fuel]
def NearAt (c : G_Contact) : Prop := c.f_At ≤ 1000000000 ∨ c.f_At = 1099511627776
theorem Stream_Odd_gives' {b : Int} {s : G_Stream} (hs : SOk b s) (lo hi : Int) (hb : b ≤ 1099511627000) (h1 : -1000000000000 ≤ lo) (h2 : hi ≤ 1000000000000) (h3 : lo ≤ hi) (h4 : hi - lo ≤ 1000000000000) :
  ∃ r s', -1099511627776 ≤ r ∧ r ≤ 1099511627776 ∧ ((lo - 1 ≤ r ∧ r ≤ hi + 1) ∨ r = -1099511627776 ∨ r = 1099511627776) ∧ SOk (b + 2) s' ∧ ∀ (R : Type) (k : Int → G_Stream → Option R), Stream_Odd s lo hi k = k r s' := by
 obtain ⟨f, s1, g1, e1⟩ := z50z_gives hs 12 (by omega) (by omega)
 cases f with
 | true =>
  obtain ⟨r, s2, hr, g2, e2⟩ := z58z_gives g1 [lo - 1, hi + 1, lo, hi, -1099511627776, 1099511627776] (by omega) (by simp) (by simp)
  refine ⟨r, s2, ?_, ?_, ?_, g2.mono (by omega), fun R k => ?_⟩
  ·simp only [List.mem_cons, List.not_mem_nil, or_false] at hr; omega
  ·simp only [List.mem_cons, List.not_mem_nil, or_false] at hr; omega
  ·simp only [List.mem_cons, List.not_mem_nil, or_false] at hr; omega
  ·simp only [Stream_Odd, Stream_Odd_, I_Stream_Odd, e1, cond_true]
   rw [w64_eq (x := lo - 1) (by omega) (by omega), w64_eq (x := hi + 1) (by omega) (by omega), e2]
 | false =>
  obtain ⟨r, s2, r1, r2, g2, e2⟩ := z64z_gives g1 lo hi (by omega) (by omega) (by omega) h3 (by omega)
  exact ⟨r, s2, by omega, by omega, by omega, g2.mono (by omega), fun R k => by simp only [Stream_Odd, Stream_Odd_, I_Stream_Odd, e1, cond_false, e2]⟩
theorem z48z_gives' {b0 : Int} {s : G_Stream} (hs : SOk b0 s) (at0 : Int) (hb : b0 ≤ 1099511626000) (h1 : 0 ≤ at0) (h2 : at0 ≤ 1000000000) :
  ∃ (c : G_Contact) (s' : G_Stream), Fine c ∧ c.f_Heard ≤ 1099511627776 ∧ NearAt c ∧ SOk (b0 + 30) s' ∧ ∀ (R : Type) (k : G_Contact → G_Stream → Option R), z48z s at0 k = k c s' := by
 obtain ⟨m, s1, hm, z1, em⟩ := z58z_gives hs [1, 1, 2, 3] (by omega) (by simp) (by simp)
 obtain ⟨b, s2, hb2, z2, eb⟩ := z32z_gives z1 [[98, 50, 48], [98, 50, 48], [98, 52, 48]] (by omega) (by simp) (by simp)
 obtain ⟨c, s3, hc, z3, ec⟩ := z76z_gives z2 (by omega)
 obtain ⟨s, s4, hs, z4, es⟩ := z58z_gives z3 [0, 1, 2, 3, 4, 5, 6, 7] (by omega) (by simp) (by simp)
 obtain ⟨h, s5, hh, z5, eh⟩ := z58z_gives z4 [0, 1, 2, 9] (by omega) (by simp) (by simp)
 obtain ⟨g, s6, hg, z6, eg⟩ := z32z_gives z5 [[], [], [102, 105, 110]] (by omega) (by simp) (by simp)
 obtain ⟨o, s7, ho, z7, eo⟩ := z32z_gives z6 [[], [], [117, 115, 97]] (by omega) (by simp) (by simp)
 obtain ⟨f, s8, z8, ef⟩ := z50z_gives z7 100 (by omega) (by omega)
 have kb : b ∈ keysL := sub_mem hb2 (by decide +kernel)
 have kg : g ∈ keysL := sub_mem hg (by decide +kernel)
 have ko : o ∈ keysL := sub_mem ho (by decide +kernel)
 simp only [List.mem_cons, List.not_mem_nil, or_false] at hm hs hh
 simp only [z48z, z48z_, I_z48z, em, eb, ec, es, eh, eg, eo, ef]
 cases f with
 | false => exact ⟨⟨at0, m, b, c, s, h, g, o⟩, s8, ⟨⟨by simp only; omega, by simp only; omega⟩, ⟨by simp only; omega, by simp only; omega⟩, ⟨by simp only; omega, by simp only; omega⟩, ⟨by simp only; omega, by simp only; omega⟩, kb, hc, kg, ko⟩, by simp only; omega, (by unfold NearAt; simp only; omega), z8.mono (by omega), fun R k => by simp only [cond_false]⟩
 | true =>
  obtain ⟨q, s9, q1, q2, z9, eq⟩ := z53z_gives z8 4 (by omega) (by omega)
  simp only [cond_true, eq]
  by_cases c0 : q = 0
  ·obtain ⟨x, t1, x1, x2, x0, y1, ex⟩ := Stream_Odd_gives' z9 0 500 (by omega) (by omega) (by omega) (by omega) (by omega)
   obtain ⟨y, t2, x3, x4, y2, ey⟩ := Stream_Odd_gives y1 1 3 (by omega) (by omega) (by omega) (by omega) (by omega)
   exact ⟨⟨x, y, b, c, s, h, g, o⟩, t2, ⟨⟨by simp only; omega, by simp only; omega⟩, ⟨by simp only; omega, by simp only; omega⟩, ⟨by simp only; omega, by simp only; omega⟩, ⟨by simp only; omega, by simp only; omega⟩, kb, hc, kg, ko⟩, by simp only; omega, (by unfold NearAt; simp only; omega), y2.mono (by omega), fun R k => by simp only [c0, beq_self_eq_true, cond_true, ex, ey]⟩
  ·have c0' : (q == 0) = false := by simpa using c0
   by_cases c1 : q = 1
   ·obtain ⟨x, t1, hx, y1, ex⟩ := z32z_gives z9 [[], [66], [98, 50, 48]] (by omega) (by simp) (by simp)
    exact ⟨⟨at0, m, x, c, s, h, g, o⟩, t1, ⟨⟨by simp only; omega, by simp only; omega⟩, ⟨by simp only; omega, by simp only; omega⟩, ⟨by simp only; omega, by simp only; omega⟩, ⟨by simp only; omega, by simp only; omega⟩, sub_mem hx (by decide +kernel), hc, kg, ko⟩, by simp only; omega, (by unfold NearAt; simp only; omega), y1.mono (by omega), fun R k => by simp only [c0', cond_false, c1, beq_self_eq_true, cond_true, ex]; rfl⟩
   ·have c1' : (q == 1) = false := by simpa using c1
    by_cases c2 : q = 2
    ·obtain ⟨x, t1, x1, x2, y1, ex⟩ := Stream_Odd_gives z9 0 99999 (by omega) (by omega) (by omega) (by omega) (by omega)
     obtain ⟨y, t2, x3, x4, y2, ey⟩ := Stream_Odd_gives y1 0 99999 (by omega) (by omega) (by omega) (by omega) (by omega)
     exact ⟨⟨at0, m, b, c, x, y, g, o⟩, t2, ⟨⟨by simp only; omega, by simp only; omega⟩, ⟨by simp only; omega, by simp only; omega⟩, ⟨by simp only; omega, by simp only; omega⟩, ⟨by simp only; omega, by simp only; omega⟩, kb, hc, kg, ko⟩, by simp only; omega, (by unfold NearAt; simp only; omega), y2.mono (by omega), fun R k => by simp only [c0', c1', cond_false, c2, beq_self_eq_true, cond_true, ex, ey]; rfl⟩
    ·have c2' : (q == 2) = false := by simpa using c2
     obtain ⟨x, t1, hx, y1, ex⟩ := z32z_gives z9 [[], [65]] (by omega) (by simp) (by simp)
     obtain ⟨y, t2, hy, y2, ey⟩ := z32z_gives y1 [[49], [117, 115, 97]] (by omega) (by simp) (by simp)
     exact ⟨⟨at0, m, b, c, s, h, x, y⟩, t2, ⟨⟨by simp only; omega, by simp only; omega⟩, ⟨by simp only; omega, by simp only; omega⟩, ⟨by simp only; omega, by simp only; omega⟩, ⟨by simp only; omega, by simp only; omega⟩, kb, hc, sub_mem hx (by decide +kernel), sub_mem hy (by decide +kernel)⟩, by simp only; omega, (by unfold NearAt; simp only; omega), y2.mono (by omega), fun R k => by simp only [c0', c1', c2', cond_false, ex, ey]⟩
theorem z8z_loop' (m : Nat) (hm : m ≤ 1000) : ∀ (n i : Nat) (at0 : Int) (s : G_Stream) (out : List G_Contact) (b : Int), m - i < n → i ≤ m → SOk (b + 31 * (i : Int)) s → b ≤ 1000000 → 0 ≤ at0 → at0 ≤ 1500000 * (i : Int) → out.length = i → (∀ c ∈ out, Fine c ∧ c.f_Heard ≤ 1099511627776 ∧ NearAt c) → m ≤ 600 →
  ∃ (r : List G_Contact) (s' : G_Stream), SOk (b + 31 * (m : Int)) s' ∧ r.length = m ∧ (∀ c ∈ r, Fine c ∧ c.f_Heard ≤ 1099511627776 ∧ NearAt c) ∧ ∀ (R : Type) (e0 : G_Stream → List G_Contact → Option R), z8z_L4 I_z8z n at0 (m : Int) (i : Int) s out e0 = e0 s' r
 | 0, i, _, _, _, _, h, _, _, _, _, _, _, _, _ => by omega
 | n + 1, i, at0, s, out, b, h, hi, hs, hb, h1, h2, ho, hf, hm6 => by
  by_cases hc : i < m
  ·obtain ⟨p, s1, hp, z1, ep⟩ := z58z_gives hs [0, 1, 10, 50, 1000, 40000, 1500000] (by omega) (by simp) (by simp)
   have hp' : 0 ≤ p ∧ p ≤ 1500000 := by
    simp only [List.mem_cons, List.not_mem_nil, or_false] at hp
    omega
   have e1 : w64 (at0 + p) = at0 + p := w64_eq (by omega) (by omega)
   obtain ⟨c, s2, hcf, hch, hcn, z2, ec⟩ := z48z_gives' z1 (at0 + p) (by omega) (by omega) (by omega)
   obtain ⟨r, s', g1, g2, g3, g4⟩ := z8z_loop' m hm n (i + 1) (at0 + p) s2 (out ++ [c]) b (by omega) (by omega) (z2.mono (by omega)) hb (by omega) (by omega) (by simp [ho]) (fun x hx => by
    rcases List.mem_append.1 hx with h | h
    ·exact hf x h
    ·simp at h; rw [h]; exact ⟨hcf, hch, hcn⟩) hm6
   refine ⟨r, s', g1, g2, g3, fun R e0 => ?_⟩
   rw [z8z_L4]
   simp only [I_z8z, decide_eq_true (show (i : Int) < (m : Int) by omega), cond_true, ep, e1, ec, room1 out c 96 (by omega) (by omega)]
   rw [w64_succ (by omega)]
   exact g4 R e0
  ·refine ⟨out, s, hs.mono (by omega), by omega, hf, fun R e0 => ?_⟩
   rw [z8z_L4, decide_eq_false (by omega)]; rfl
theorem z8z_gives' {b : Int} {s : G_Stream} (hs : SOk b s) (hb : b ≤ 1000000) (m : Nat) (hm : m ≤ 20) :
  ∃ (r : List G_Contact) (s' : G_Stream), SOk (b + 31 * (m : Int)) s' ∧ r.length ≤ m ∧ (∀ c ∈ r, Fine c ∧ c.f_Heard ≤ 1099511627776 ∧ NearAt c) ∧ ∀ (R : Type) (k : List G_Contact → G_Stream → Option R), z8z s (m : Int) k = k r s' := by
 obtain ⟨r, s', g1, g2, g3, g4⟩ := z8z_loop' m (by omega) NN 0 0 s [] b (by have := NN_ok; omega) (by omega) (hs.mono (by omega)) hb (by omega) (by omega) rfl (fun c h => by cases h) (by omega)
 have g4' : ∀ (R : Type) (e0 : G_Stream → List G_Contact → Option R), z8z_L4 I_z8z I_z8z.N 0 (m : Int) 0 s [] e0 = e0 s' r := g4
 have hr : ∀ c ∈ r, Fine c := fun c h => (g3 c h).1
 have hsr : ∀ c ∈ sortI cmpC r, Fine c := fun c h => hr c (sortI_mem.1 h)
 refine ⟨compactP (fun x y => cmpC x y == 0) (sortI cmpC r), s', g1, ?_, fun c h => g3 c (sortI_mem.1 (compactP_sub h)), fun R k => ?_⟩
 ·have := compactP_len (fun x y => cmpC x y == 0) (sortI cmpC r)
  have := sortI_length cmpC r
  omega
 ·simp only [z8z, z8z_, g4']
  simp only [I_z8z, sortC_ord hr (by omega), compfC_is hsr (by rw [sortI_length]; omega)]
theorem z24z_loop (m : Nat) (hm : m ≤ 20) : ∀ (j n i : Nat) (b : Int) (s : G_Stream), i + j = 5 → j < n → SOk b s → b + 700 * (j : Int) ≤ 900000 →
  ∃ (r : List G_Contact) (s' : G_Stream), SOk (b + 700 * (j : Int)) s' ∧ r.length ≤ m ∧ (∀ c ∈ r, Fine c ∧ c.f_Heard ≤ 1099511627776 ∧ NearAt c) ∧ faultL r = 0 ∧ ∀ (R : Type) (k : List G_Contact → G_Stream → Option R), z24z_L2 I_z24z n (m : Int) (i : Int) s (fun e12 e13 => k e13 e12) (fun e14 => k [] e14) = k r s'
 | _, 0, _, _, _, _, h, _, _ => by omega
 | 0, n + 1, i, b, s, hi, _, hs, hb => ⟨[], s, hs.mono (by omega), by simp, (fun c h => by cases h), rfl, fun R k => by rw [z24z_L2, decide_eq_false (by omega)]; rfl⟩
 | j + 1, n + 1, i, b, s, hi, hn, hs, hb => by
  obtain ⟨r, s1, z1, l1, f1, e1⟩ := z8z_gives' hs (by omega) m hm
  have hm' : (m : Int) ≤ 20 := by omega
  have e1' : ∀ {R : Type} (k : List G_Contact → G_Stream → Option R), I_z24z.z8z s (m : Int) k = k r s1 := fun k => e1 _ k
  have hq : ∀ {R : Type} (k : Int → Option R), I_z24z.Q_LogFault r k = k (faultL r) := fun k => Q_LogFault_is (fun c hc => (f1 c hc).1) (by omega) _ k
  by_cases h0 : faultL r = 0
  ·refine ⟨r, s1, z1.mono (by omega), l1, f1, h0, fun R k => ?_⟩
   rw [z24z_L2, decide_eq_true (by omega)]
   simp only [cond_true, e1', hq, h0, beq_self_eq_true]
  ·obtain ⟨r', s', g1, g2, g3, g4, g5⟩ := z24z_loop m hm j n (i + 1) (b + 700) s1 (by omega) (by omega) (z1.mono (by omega)) (by omega)
   refine ⟨r', s', g1.mono (by omega), g2, g3, g4, fun R k => ?_⟩
   rw [z24z_L2, decide_eq_true (by omega)]
   simp only [cond_true, e1', hq, beq_eq_false_iff_ne.2 h0, cond_false, w64_succ (show i < 4611686018427387904 by omega), g5]
theorem z24z_gives {b : Int} {s : G_Stream} (hs : SOk b s) (hb : b ≤ 100000) (m : Nat) (hm : m ≤ 20) :
  ∃ (r : List G_Contact) (s' : G_Stream), SOk (b + 3500) s' ∧ r.length ≤ m ∧ (∀ c ∈ r, Fine c ∧ c.f_Heard ≤ 1099511627776 ∧ NearAt c) ∧ faultL r = 0 ∧ ∀ (R : Type) (k : List G_Contact → G_Stream → Option R), z24z s (m : Int) k = k r s' := by
 obtain ⟨r, s', g1, g2, g3, g4, g5⟩ := z24z_loop m hm 5 NN 0 b s (by omega) (by have := NN_ok; omega) hs (by omega)
 exact ⟨r, s', g1.mono (by omega), g2, g3, g4, fun R k => g5 R k⟩
end Go.Am
