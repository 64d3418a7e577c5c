/- The plain law, in Lean alone: Y4. No condition: lemmas for the claim. -/
import Derived.Test.YtfifleplhegkdaaGreatDoorPlY1
import Derived.Test.YtfifleplhegkdaaGreatDoorPlH4
import Derived.Test.YtfifleplhegkdaaGreatDoorPlB4
set_option linter.unusedVariables false
set_option linter.unusedSectionVars false
set_option linter.unusedSimpArgs false
set_option maxRecDepth 100000
namespace Go.Am
open Go Go.Proofs
variable [Fuel]
def NearAt (c : G_Contact) : Prop := c.f_At ≤ 1000000000 ∨ c.f_At = 1099511627776
theorem Stream_Odd_gives' {b : Int} {s : G_Stream} (hs : SOk b s) (lo hi : Int) (hb : b ≤ 1099511627000) (h1 : -1000000000000 ≤ lo) (h2 : hi ≤ 1000000000000) (h3 : lo ≤ hi) (h4 : hi - lo ≤ 1000000000000) :
  ∃ r s', -1099511627776 ≤ r ∧ r ≤ 1099511627776 ∧ ((lo - 1 ≤ r ∧ r ≤ hi + 1) ∨ r = -1099511627776 ∨ r = 1099511627776) ∧ SOk (b + 2) s' ∧ ∀ (R : Type) (k : Int → G_Stream → Option R), Stream_Odd s lo hi k = k r s' := by
 obtain ⟨f, s1, g1, e1⟩ := Stream_Flip_gives hs 12 (by omega) (by omega)
 cases f with
 | true =>
  obtain ⟨r, s2, hr, g2, e2⟩ := Stream_Pick_gives g1 [lo - 1, hi + 1, lo, hi, -1099511627776, 1099511627776] (by omega) (by simp) (by simp)
  refine ⟨r, s2, ?_, ?_, ?_, g2.mono (by omega), fun R k => ?_⟩
  ·simp only [List.mem_cons, List.not_mem_nil, or_false] at hr; omega
  ·simp only [List.mem_cons, List.not_mem_nil, or_false] at hr; omega
  ·simp only [List.mem_cons, List.not_mem_nil, or_false] at hr; omega
  ·simp only [Stream_Odd, Stream_Odd_, I_Stream_Odd, e1, cond_true]
   rw [w64_eq (x := lo - 1) (by omega) (by omega), w64_eq (x := hi + 1) (by omega) (by omega), e2]
 | false =>
  obtain ⟨r, s2, r1, r2, g2, e2⟩ := Stream_Range_gives g1 lo hi (by omega) (by omega) (by omega) h3 (by omega)
  exact ⟨r, s2, by omega, by omega, by omega, g2.mono (by omega), fun R k => by simp only [Stream_Odd, Stream_Odd_, I_Stream_Odd, e1, cond_false, e2]⟩
theorem Stream_SomeContact_gives' {b0 : Int} {s : G_Stream} (hs : SOk b0 s) (at0 : Int) (hb : b0 ≤ 1099511626000) (h1 : 0 ≤ at0) (h2 : at0 ≤ 1000000000) :
  ∃ (c : G_Contact) (s' : G_Stream), Fine c ∧ c.f_Heard ≤ 1099511627776 ∧ NearAt c ∧ SOk (b0 + 30) s' ∧ ∀ (R : Type) (k : G_Contact → G_Stream → Option R), Stream_SomeContact s at0 k = k c s' := by
 obtain ⟨m, s1, hm, z1, em⟩ := Stream_Pick_gives hs [1, 1, 2, 3] (by omega) (by simp) (by simp)
 obtain ⟨b, s2, hb2, z2, eb⟩ := Stream_Some_gives z1 [[98, 50, 48], [98, 50, 48], [98, 52, 48]] (by omega) (by simp) (by simp)
 obtain ⟨c, s3, hc, z3, ec⟩ := Stream_ACall_gives z2 (by omega)
 obtain ⟨s, s4, hs, z4, es⟩ := Stream_Pick_gives z3 [0, 1, 2, 3, 4, 5, 6, 7] (by omega) (by simp) (by simp)
 obtain ⟨h, s5, hh, z5, eh⟩ := Stream_Pick_gives z4 [0, 1, 2, 9] (by omega) (by simp) (by simp)
 obtain ⟨g, s6, hg, z6, eg⟩ := Stream_Some_gives z5 [[], [], [102, 105, 110]] (by omega) (by simp) (by simp)
 obtain ⟨o, s7, ho, z7, eo⟩ := Stream_Some_gives z6 [[], [], [117, 115, 97]] (by omega) (by simp) (by simp)
 obtain ⟨f, s8, z8, ef⟩ := Stream_Flip_gives z7 100 (by omega) (by omega)
 have kb : b ∈ keysL := sub_mem hb2 (by decide +kernel)
 have kg : g ∈ keysL := sub_mem hg (by decide +kernel)
 have ko : o ∈ keysL := sub_mem ho (by decide +kernel)
 simp only [List.mem_cons, List.not_mem_nil, or_false] at hm hs hh
 simp only [Stream_SomeContact, Stream_SomeContact_, I_Stream_SomeContact, em, eb, ec, es, eh, eg, eo, ef]
 cases f with
 | false => exact ⟨⟨at0, m, b, c, s, h, g, o⟩, s8, ⟨⟨by simp only; omega, by simp only; omega⟩, ⟨by simp only; omega, by simp only; omega⟩, ⟨by simp only; omega, by simp only; omega⟩, ⟨by simp only; omega, by simp only; omega⟩, kb, hc, kg, ko⟩, by simp only; omega, (by unfold NearAt; simp only; omega), z8.mono (by omega), fun R k => by simp only [cond_false]⟩
 | true =>
  obtain ⟨q, s9, q1, q2, z9, eq⟩ := Stream_Next_gives z8 4 (by omega) (by omega)
  simp only [cond_true, eq]
  by_cases c0 : q = 0
  ·obtain ⟨x, t1, x1, x2, x0, y1, ex⟩ := Stream_Odd_gives' z9 0 500 (by omega) (by omega) (by omega) (by omega) (by omega)
   obtain ⟨y, t2, x3, x4, y2, ey⟩ := Stream_Odd_gives y1 1 3 (by omega) (by omega) (by omega) (by omega) (by omega)
   exact ⟨⟨x, y, b, c, s, h, g, o⟩, t2, ⟨⟨by simp only; omega, by simp only; omega⟩, ⟨by simp only; omega, by simp only; omega⟩, ⟨by simp only; omega, by simp only; omega⟩, ⟨by simp only; omega, by simp only; omega⟩, kb, hc, kg, ko⟩, by simp only; omega, (by unfold NearAt; simp only; omega), y2.mono (by omega), fun R k => by simp only [c0, beq_self_eq_true, cond_true, ex, ey]⟩
  ·have c0' : (q == 0) = false := by simpa using c0
   by_cases c1 : q = 1
   ·obtain ⟨x, t1, hx, y1, ex⟩ := Stream_Some_gives z9 [[], [66], [98, 50, 48]] (by omega) (by simp) (by simp)
    exact ⟨⟨at0, m, x, c, s, h, g, o⟩, t1, ⟨⟨by simp only; omega, by simp only; omega⟩, ⟨by simp only; omega, by simp only; omega⟩, ⟨by simp only; omega, by simp only; omega⟩, ⟨by simp only; omega, by simp only; omega⟩, sub_mem hx (by decide +kernel), hc, kg, ko⟩, by simp only; omega, (by unfold NearAt; simp only; omega), y1.mono (by omega), fun R k => by simp only [c0', cond_false, c1, beq_self_eq_true, cond_true, ex]; rfl⟩
   ·have c1' : (q == 1) = false := by simpa using c1
    by_cases c2 : q = 2
    ·obtain ⟨x, t1, x1, x2, y1, ex⟩ := Stream_Odd_gives z9 0 99999 (by omega) (by omega) (by omega) (by omega) (by omega)
     obtain ⟨y, t2, x3, x4, y2, ey⟩ := Stream_Odd_gives y1 0 99999 (by omega) (by omega) (by omega) (by omega) (by omega)
     exact ⟨⟨at0, m, b, c, x, y, g, o⟩, t2, ⟨⟨by simp only; omega, by simp only; omega⟩, ⟨by simp only; omega, by simp only; omega⟩, ⟨by simp only; omega, by simp only; omega⟩, ⟨by simp only; omega, by simp only; omega⟩, kb, hc, kg, ko⟩, by simp only; omega, (by unfold NearAt; simp only; omega), y2.mono (by omega), fun R k => by simp only [c0', c1', cond_false, c2, beq_self_eq_true, cond_true, ex, ey]; rfl⟩
    ·have c2' : (q == 2) = false := by simpa using c2
     obtain ⟨x, t1, hx, y1, ex⟩ := Stream_Some_gives z9 [[], [65]] (by omega) (by simp) (by simp)
     obtain ⟨y, t2, hy, y2, ey⟩ := Stream_Some_gives y1 [[49], [117, 115, 97]] (by omega) (by simp) (by simp)
     exact ⟨⟨at0, m, b, c, s, h, x, y⟩, t2, ⟨⟨by simp only; omega, by simp only; omega⟩, ⟨by simp only; omega, by simp only; omega⟩, ⟨by simp only; omega, by simp only; omega⟩, ⟨by simp only; omega, by simp only; omega⟩, kb, hc, sub_mem hx (by decide +kernel), sub_mem hy (by decide +kernel)⟩, by simp only; omega, (by unfold NearAt; simp only; omega), y2.mono (by omega), fun R k => by simp only [c0', c1', c2', cond_false, ex, ey]⟩
theorem Stream_Contacts_loop' (m : Nat) (hm : m ≤ 1000) : ∀ (n i : Nat) (at0 : Int) (s : G_Stream) (out : List G_Contact) (b : Int), m - i < n → i ≤ m → SOk (b + 31 * (i : Int)) s → b ≤ 1000000 → 0 ≤ at0 → at0 ≤ 1500000 * (i : Int) → out.length = i → (∀ c ∈ out, Fine c ∧ c.f_Heard ≤ 1099511627776 ∧ NearAt c) → m ≤ 600 →
  ∃ (r : List G_Contact) (s' : G_Stream), SOk (b + 31 * (m : Int)) s' ∧ r.length = m ∧ (∀ c ∈ r, Fine c ∧ c.f_Heard ≤ 1099511627776 ∧ NearAt c) ∧ ∀ (R : Type) (e0 : G_Stream → List G_Contact → Option R), Stream_Contacts_L4 I_Stream_Contacts n at0 (m : Int) (i : Int) s out e0 = e0 s' r
 | 0, i, _, _, _, _, h, _, _, _, _, _, _, _, _ => by omega
 | n + 1, i, at0, s, out, b, h, hi, hs, hb, h1, h2, ho, hf, hm6 => by
  by_cases hc : i < m
  ·obtain ⟨p, s1, hp, z1, ep⟩ := Stream_Pick_gives hs [0, 1, 10, 50, 1000, 40000, 1500000] (by omega) (by simp) (by simp)
   have hp' : 0 ≤ p ∧ p ≤ 1500000 := by
    simp only [List.mem_cons, List.not_mem_nil, or_false] at hp
    omega
   have e1 : w64 (at0 + p) = at0 + p := w64_eq (by omega) (by omega)
   obtain ⟨c, s2, hcf, hch, hcn, z2, ec⟩ := Stream_SomeContact_gives' z1 (at0 + p) (by omega) (by omega) (by omega)
   obtain ⟨r, s', g1, g2, g3, g4⟩ := Stream_Contacts_loop' m hm n (i + 1) (at0 + p) s2 (out ++ [c]) b (by omega) (by omega) (z2.mono (by omega)) hb (by omega) (by omega) (by simp [ho]) (fun x hx => by
    rcases List.mem_append.1 hx with h | h
    ·exact hf x h
    ·simp at h; rw [h]; exact ⟨hcf, hch, hcn⟩) hm6
   refine ⟨r, s', g1, g2, g3, fun R e0 => ?_⟩
   rw [Stream_Contacts_L4]
   simp only [I_Stream_Contacts, decide_eq_true (show (i : Int) < (m : Int) by omega), cond_true, ep, e1, ec, room1 out c 96 (by omega) (by omega)]
   rw [w64_succ (by omega)]
   exact g4 R e0
  ·refine ⟨out, s, hs.mono (by omega), by omega, hf, fun R e0 => ?_⟩
   rw [Stream_Contacts_L4, decide_eq_false (by omega)]; rfl
theorem Stream_Contacts_gives' {b : Int} {s : G_Stream} (hs : SOk b s) (hb : b ≤ 1000000) (m : Nat) (hm : m ≤ 20) :
  ∃ (r : List G_Contact) (s' : G_Stream), SOk (b + 31 * (m : Int)) s' ∧ r.length ≤ m ∧ (∀ c ∈ r, Fine c ∧ c.f_Heard ≤ 1099511627776 ∧ NearAt c) ∧ ∀ (R : Type) (k : List G_Contact → G_Stream → Option R), Stream_Contacts s (m : Int) k = k r s' := by
 obtain ⟨r, s', g1, g2, g3, g4⟩ := Stream_Contacts_loop' m (by omega) NN 0 0 s [] b (by have := NN_ok; omega) (by omega) (hs.mono (by omega)) hb (by omega) (by omega) rfl (fun c h => by cases h) (by omega)
 have g4' : ∀ (R : Type) (e0 : G_Stream → List G_Contact → Option R), Stream_Contacts_L4 I_Stream_Contacts I_Stream_Contacts.N 0 (m : Int) 0 s [] e0 = e0 s' r := g4
 have hr : ∀ c ∈ r, Fine c := fun c h => (g3 c h).1
 have hsr : ∀ c ∈ sortI cmpC r, Fine c := fun c h => hr c (sortI_mem.1 h)
 refine ⟨compactP (fun x y => cmpC x y == 0) (sortI cmpC r), s', g1, ?_, fun c h => g3 c (sortI_mem.1 (compactP_sub h)), fun R k => ?_⟩
 ·have := compactP_len (fun x y => cmpC x y == 0) (sortI cmpC r)
  have := sortI_length cmpC r
  omega
 ·simp only [Stream_Contacts, Stream_Contacts_, g4']
  simp only [I_Stream_Contacts, sortC_ord hr (by omega), compfC_is hsr (by rw [sortI_length]; omega)]
theorem keep_errs_loop (l : List Int) (hl : l.length < 1000000) : ∀ (xs : List Int) (n i : Nat), l.drop i = xs → xs.length < n → ∀ (R : Type) (k : Int → Option R),
  keep_errs_L2 NN n l (l.length : Int) (i : Int) (fun e => k e) (k 0) = k (orL xs)
 | _, 0, _, _, h, _, _ => by omega
 | [], n + 1, i, h, _, R, k => by rw [keep_errs_L2, ge_drop h]; rfl
 | x :: xs, n + 1, i, h, hn, R, k => by
  have h' := drop_cons h
  have ih := keep_errs_loop l hl xs n (i + 1) h'.2.2.1 (by simp at hn; omega) R k
  rw [keep_errs_L2, lt_drop h]
  simp only [cond_true, get_drop h, w64_succ (show i < 4611686018427387904 by omega), ih, orL]
  cases x != 0 <;> rfl
theorem keep_errs_is (l : List Int) (hl : l.length < 1000000) (R : Type) (k : Int → Option R) : keep_errs l k = k (orL l) :=
 keep_errs_loop l hl l NN 0 rfl (by have := NN_ok; omega) R k
theorem Stream_RightContacts_loop (m : Nat) (hm : m ≤ 20) : ∀ (j n i : Nat) (b : Int) (s : G_Stream), i + j = 5 → j < n → SOk b s → b + 700 * (j : Int) ≤ 900000 →
  ∃ (r : List G_Contact) (s' : G_Stream), SOk (b + 700 * (j : Int)) s' ∧ r.length ≤ m ∧ (∀ c ∈ r, Fine c ∧ c.f_Heard ≤ 1099511627776 ∧ NearAt c) ∧ faultL r = 0 ∧ ∀ (R : Type) (k : List G_Contact → G_Stream → Option R), Stream_RightContacts_L2 I_Stream_RightContacts n (m : Int) (i : Int) s (fun e12 e13 => k e13 e12) (fun e14 => k [] e14) = k r s'
 | _, 0, _, _, _, _, h, _, _ => by omega
 | 0, n + 1, i, b, s, hi, _, hs, hb => ⟨[], s, hs.mono (by omega), by simp, (fun c h => by cases h), rfl, fun R k => by rw [Stream_RightContacts_L2, decide_eq_false (by omega)]; rfl⟩
 | j + 1, n + 1, i, b, s, hi, hn, hs, hb => by
  obtain ⟨r, s1, z1, l1, f1, e1⟩ := Stream_Contacts_gives' hs (by omega) m hm
  have hm' : (m : Int) ≤ 20 := by omega
  have e1' : ∀ {R : Type} (k : List G_Contact → G_Stream → Option R), I_Stream_RightContacts.Stream_Contacts s (m : Int) k = k r s1 := fun k => e1 _ k
  have hq : ∀ {R : Type} (k : Int → Option R), I_Stream_RightContacts.Q_LogFault r k = k (faultL r) := fun k => Q_LogFault_is (fun c hc => (f1 c hc).1) (by omega) _ k
  by_cases h0 : faultL r = 0
  ·refine ⟨r, s1, z1.mono (by omega), l1, f1, h0, fun R k => ?_⟩
   rw [Stream_RightContacts_L2, decide_eq_true (by omega)]
   simp only [cond_true, e1', hq, h0, beq_self_eq_true]
  ·obtain ⟨r', s', g1, g2, g3, g4, g5⟩ := Stream_RightContacts_loop m hm j n (i + 1) (b + 700) s1 (by omega) (by omega) (z1.mono (by omega)) (by omega)
   refine ⟨r', s', g1.mono (by omega), g2, g3, g4, fun R k => ?_⟩
   rw [Stream_RightContacts_L2, decide_eq_true (by omega)]
   simp only [cond_true, e1', hq, beq_eq_false_iff_ne.2 h0, cond_false, w64_succ (show i < 4611686018427387904 by omega), g5]
theorem Stream_RightContacts_gives {b : Int} {s : G_Stream} (hs : SOk b s) (hb : b ≤ 100000) (m : Nat) (hm : m ≤ 20) :
  ∃ (r : List G_Contact) (s' : G_Stream), SOk (b + 3500) s' ∧ r.length ≤ m ∧ (∀ c ∈ r, Fine c ∧ c.f_Heard ≤ 1099511627776 ∧ NearAt c) ∧ faultL r = 0 ∧ ∀ (R : Type) (k : List G_Contact → G_Stream → Option R), Stream_RightContacts s (m : Int) k = k r s' := by
 obtain ⟨r, s', g1, g2, g3, g4, g5⟩ := Stream_RightContacts_loop m hm 5 NN 0 b s (by omega) (by have := NN_ok; omega) hs (by omega)
 exact ⟨r, s', g1.mono (by omega), g2, g3, g4, fun R k => g5 R k⟩
noncomputable def refs : Nat → List G_Contact → List G_Change → List Int
 | _, _, [] => []
 | i, out, c :: cs => bif okC out c then refs (i + 1) (nextC out c) cs else (i : Int) :: refs (i + 1) out cs
noncomputable def okL : List G_Contact → List G_Change → List G_Change
 | _, [] => []
 | out, c :: cs => bif okC out c then c :: okL (nextC out c) cs else okL out cs
theorem runC_refs : ∀ (cs : List G_Change) (i : Nat) (out : List G_Contact) (r : List Int), (runC i out r cs).2 = r ++ refs i out cs
 | [], i, out, r => by simp [runC, refs]
 | c :: cs, i, out, r => by
  unfold runC refs
  cases okC out c with
  | true => exact runC_refs cs (i + 1) (nextC out c) r
  | false => simp only [cond_false]; rw [runC_refs cs (i + 1) out (r ++ [(i : Int)])]; simp
theorem runC_ok : ∀ (cs : List G_Change) (i j : Nat) (out : List G_Contact) (r r' : List Int), runC j out r (okL out cs) = ((runC i out r' cs).1, r)
 | [], i, j, out, r, r' => rfl
 | c :: cs, i, j, out, r, r' => by
  cases h : okC out c with
  | true =>
   have e1 : okL out (c :: cs) = c :: okL (nextC out c) cs := by rw [okL.eq_def]; simp only [h, cond_true]
   have e2 : (runC i out r' (c :: cs)).1 = (runC (i + 1) (nextC out c) r' cs).1 := by rw [runC.eq_def]; simp only [h, cond_true]
   rw [e1, e2]
   have e3 : runC j out r (c :: okL (nextC out c) cs) = runC (j + 1) (nextC out c) r (okL (nextC out c) cs) := by rw [runC.eq_def]; simp only [h, cond_true]
   rw [e3]
   exact runC_ok cs (i + 1) (j + 1) (nextC out c) r r'
  | false =>
   have e1 : okL out (c :: cs) = okL out cs := by rw [okL.eq_def]; simp only [h, cond_false]
   have e2 : (runC i out r' (c :: cs)).1 = (runC (i + 1) out (r' ++ [(i : Int)]) cs).1 := by rw [runC.eq_def]; simp only [h, cond_false]
   rw [e1, e2]
   exact runC_ok cs (i + 1) j out r (r' ++ [(i : Int)])
theorem refs_ge : ∀ (cs : List G_Change) (i : Nat) (out : List G_Contact), ∀ y ∈ refs i out cs, (i : Int) ≤ y
 | [], i, out, y, h => by cases h
 | c :: cs, i, out, y, h => by
  unfold refs at h
  cases hk : okC out c with
  | true => rw [hk] at h; have := refs_ge cs (i + 1) _ y h; omega
  | false =>
   rw [hk] at h
   rcases List.mem_cons.1 h with rfl | h
   ·omega
   ·have := refs_ge cs (i + 1) _ y h; omega
theorem okL_sub : ∀ (cs : List G_Change) (out : List G_Contact), (okL out cs).Sublist cs
 | [], out => .slnil
 | c :: cs, out => by
  unfold okL
  cases okC out c with
  | true => exact (okL_sub cs _).cons_cons c
  | false => exact (okL_sub cs _).cons c
theorem GB_L9 (fa : Int) (x y : List G_Contact) (cl : List G_Change) (hcl : cl.length ≤ 1000) (R0 : List Int) (hR : R0.length ≤ 1000) : ∀ (cs : List G_Change) (n i : Nat) (st : List G_Contact) (pre : List Int) (out : List G_Change), cl.drop i = cs → cs.length < n → R0 = pre ++ refs i st cs → (∀ y ∈ pre, y < (i : Int)) → out.length ≤ i →
  ∀ (R : Type) (e0 : Int → List G_Contact → List G_Contact → List G_Change → Option R), keep_ChangesCanGoBack_L9 I_keep_ChangesCanGoBack n fa (cl.length : Int) (i : Int) x cl y R0 out e0 = e0 fa x y (out ++ okL st cs)
 | _, 0, _, _, _, _, _, h, _, _, _, _, _ => by omega
 | [], n + 1, i, st, pre, out, h, _, _, _, _, R, e0 => by rw [keep_ChangesCanGoBack_L9, ge_drop h]; simp [okL]
 | c :: cs, n + 1, i, st, pre, out, h, hn, hr, hp, ho, R, e0 => by
  have h' := drop_cons h
  simp at hn
  have hc : ∀ k : Bool → Option R, I_keep_ChangesCanGoBack.slices_Contains__int R0 (i : Int) k = k (R0.any fun y => (i : Int) == y) := fun k => slices_Contains__int_is hR (i : Int) R k
  have rm := room1 out c 208 (show out.length ≤ 1000000 by omega) (by omega)
  rw [keep_ChangesCanGoBack_L9, lt_drop h]
  simp only [cond_true, inr_drop h, at_drop h, hc, rm, w64_succ (show i < 4611686018427387904 by omega)]
  have hpn : pre.any (fun y => (i : Int) == y) = false := by
   rw [List.any_eq_false]
   intro y hy
   have := hp y hy
   simp only [beq_iff_eq]
   omega
  cases hk : okC st c with
  | true =>
   have e1 : refs i st (c :: cs) = refs (i + 1) (nextC st c) cs := by rw [refs.eq_def]; simp only [hk, cond_true]
   rw [e1] at hr
   have hno : (R0.any fun y => (i : Int) == y) = false := by
    rw [hr, List.any_append, hpn, Bool.false_or, List.any_eq_false]
    intro y hy
    have := refs_ge cs (i + 1) _ y hy
    simp only [beq_iff_eq]
    omega
   have ih := GB_L9 fa x y cl hcl R0 hR cs n (i + 1) (nextC st c) pre (out ++ [c]) h'.2.2.1 (by omega) hr (fun y hy => by have := hp y hy; omega) (by simp; omega) R e0
   have e2 : okL st (c :: cs) = c :: okL (nextC st c) cs := by rw [okL.eq_def]; simp only [hk, cond_true]
   rw [hno, e2]
   simp only [Bool.not_false, cond_true, ih, List.append_assoc, List.singleton_append]
  | false =>
   have e1 : refs i st (c :: cs) = (i : Int) :: refs (i + 1) st cs := by rw [refs.eq_def]; simp only [hk, cond_false]
   rw [e1] at hr
   have hyes : (R0.any fun y => (i : Int) == y) = true := by
    rw [hr, List.any_append, hpn, Bool.false_or, List.any_cons, beq_self_eq_true, Bool.true_or]
   have ih := GB_L9 fa x y cl hcl R0 hR cs n (i + 1) st (pre ++ [(i : Int)]) out h'.2.2.1 (by omega) (by rw [hr]; simp) (fun y hy => by
    rcases List.mem_append.1 hy with hy | hy
    ·have := hp y hy; omega
    ·simp at hy; omega) (by omega) R e0
   have e2 : okL st (c :: cs) = okL st cs := by rw [okL.eq_def]; simp only [hk, cond_false]
   rw [hyes, e2]
   simp only [Bool.not_true, cond_false, ih]
theorem chkH_none {p : Option G_Change} {c : G_Change} (h : chkH p c = 0) : chkH none c = 0 := by
 unfold chkH at h ⊢
 revert h
 cases inB c.f_No 1 1000 <;> cases inB c.f_Kind 1 3 <;> cases (c.f_Kind != 1) && (chk c.f_Was != 0) <;> cases (c.f_Kind != 2) && (chk c.f_Is != 0) <;> cases formH c <;> simp [lowH]
theorem chkH_some {q c : G_Change} (h : chkH none c = 0) (hq : q.f_No < c.f_No) : chkH (some q) c = 0 := by
 unfold chkH at h ⊢
 have : lowH (some q) c = false := decide_eq_false (by omega)
 rw [this]
 exact h
theorem faultHs_of : ∀ (l : List G_Change) (p : Option G_Change), (∀ c ∈ l, chkH none c = 0) → IncH l → (∀ q, p = some q → ∀ c ∈ l, q.f_No < c.f_No) → faultHs p l = 0
 | [], _, _, _, _ => rfl
 | c :: cs, p, hc, hi, hp => by
  have h1 := List.pairwise_cons.1 hi
  have h0 : chkH p c = 0 := by
   cases p with
   | none => exact hc c (by simp)
   | some q => exact chkH_some (hc c (by simp)) (hp q rfl c (by simp))
  unfold faultHs
  rw [h0]
  simp only [bne_self_eq_false, cond_false]
  exact faultHs_of cs (some c) (fun x hx => hc x (by simp [hx])) h1.2 (fun q hq x hx => by cases hq; exact h1.1 x hx)
theorem faultH_sub {l d : List G_Change} (h : faultH l = 0) (hs : d.Sublist l) : faultH d = 0 := by
 obtain ⟨h1, h2, h3⟩ := faultH_inc h
 have hl := hs.length_le
 unfold faultH
 rw [decide_eq_false (by omega)]
 exact faultHs_of d none (fun c hc => by obtain ⟨q, hq⟩ := h3 c (hs.subset hc); exact chkH_none hq) (h1.sublist hs) (fun q hq => by cases hq)
def newC : G_Contact := ⟨345686399999, 1, [98, 50, 48], [107, 49, 97, 98], 0, 0, [], []⟩
def putD : List G_Change := [⟨1, 1, zeroC, newC⟩, ⟨2, 2, newC, zeroC⟩]
theorem fine_new : Fine newC := ⟨⟨by decide, by decide⟩, ⟨by decide, by decide⟩, ⟨by decide, by decide⟩, ⟨by decide, by decide⟩, by decide, by decide, by decide, by decide⟩
theorem putD_fine : ∀ c ∈ putD, FineH c := fun c h => by
 simp only [putD, List.mem_cons, List.not_mem_nil, or_false] at h
 rcases h with rfl | rfl
 ·exact ⟨⟨by decide, by decide⟩, ⟨by decide, by decide⟩, fine_zero, fine_new⟩
 ·exact ⟨⟨by decide, by decide⟩, ⟨by decide, by decide⟩, fine_new, fine_zero⟩
theorem putD_ok : faultH putD = 0 := by
 obtain ⟨m, h, rfl⟩ := fuel_is ‹Fuel›
 kernel_rfl
theorem cmpC_at {x y : G_Contact} (h : x.f_At ≠ y.f_At) : (cmpC x y == 0) = false := by
 rw [beq_eq_false_iff_ne]
 intro e
 exact h (cmpC_zero.1 e).1
theorem putD_run {x : List G_Contact} (hx : ∀ c ∈ x, c.f_At ≠ 345686399999) : runC 0 x [] putD = (x, []) := by
 have h1 : okC x ⟨1, 1, zeroC, newC⟩ = true := by
  have : (leftC x ⟨1, 1, zeroC, newC⟩).any (fun o => cmpC o newC == 0) = false := by
   rw [List.any_eq_false]
   intro o ho
   rw [cmpC_at (hx o (leftC_sub ho))]
   simp
  unfold okC
  simp only [this]
  rfl
 have h2 : nextC x ⟨1, 1, zeroC, newC⟩ = x ++ [newC] := rfl
 have hin : newC ∈ x ++ [newC] := by simp
 have h3 : okC (x ++ [newC]) ⟨2, 2, newC, zeroC⟩ = true := by
  unfold okC
  simp only [any_was.2 hin]
  rfl
 have h4 : nextC (x ++ [newC]) ⟨2, 2, newC, zeroC⟩ = x := by
  show (x ++ [newC]).filter (fun o => !(eq_G_Contact o newC)) = x
  have e1 : x.filter (fun o => !(eq_G_Contact o newC)) = x := by
   rw [List.filter_eq_self]
   intro o ho
   cases he : eq_G_Contact o newC with
   | false => rfl
   | true =>
    have := (eq_G_Contact_is o newC).1 he
    exact absurd (by rw [this]; rfl) (hx o ho)
  have e2 : eq_G_Contact newC newC = true := (eq_G_Contact_is _ _).2 rfl
  rw [List.filter_append, e1]
  simp [e2]
 unfold putD
 rw [runC, h1, cond_true, h2, runC, h3, cond_true, h4, runC]
theorem keep_ChangesCanGoBack_true (l : List Int) (R : Type) (k : Bool → Option R) : keep_ChangesCanGoBack l k = k true := by
 obtain ⟨m, s1, m1, m2, z1, e1⟩ := Stream_Range_gives (sOk0 l) 0 8 (by omega) (by omega) (by omega) (by omega) (by omega)
 obtain ⟨m, rfl⟩ := Int.eq_ofNat_of_zero_le m1
 obtain ⟨x, s2, z2, lx, hx, fx, e2⟩ := Stream_RightContacts_gives z1 (by omega) m (by omega)
 obtain ⟨c, s3, z3, lc, hc, e3⟩ := Stream_Changes_gives (l := x) (by omega) (fun y hy => ⟨(hx y hy).1, (hx y hy).2.1⟩) z2 (by omega)
 have fxx : ∀ y ∈ x, Fine y := fun y hy => (hx y hy).1
 have fcc : ∀ y ∈ c, FineH y := fun y hy => (hc y hy).1
 have hrd : ∀ k : Bool → Option R, keep_ready k = k true := fun k => keep_ready_is R k
 have hcf : ∀ k : Int → Option R, Q_ChangesFault c k = k (faultH c) := fun k => Q_ChangesFault_is fcc (by omega) R k
 by_cases h0 : faultH c = 0
 ·have hd := okL_sub c x
  have fd : faultH (okL x c) = 0 := faultH_sub h0 hd
  have ld := hd.length_le
  have fdd : ∀ y ∈ okL x c, FineH y := fun y hy => fcc y (hd.subset hy)
  have l1 := runC_len c 0 x []
  simp only [List.length_nil] at l1
  have c1 : changedC x c = (sortI cmpC (runC 0 x [] c).1, refs 0 x c, 0) := by
   unfold changedC
   rw [decide_eq_false (by omega), runC_refs]
   simp
  have c2 : changedC x (okL x c) = (sortI cmpC (runC 0 x [] c).1, [], 0) := by
   unfold changedC
   rw [runC_ok c 0 0 x [] [], decide_eq_false (by simp only; omega)]
   rfl
  have strict := (faultC_one x none (by
   have := fx
   unfold faultL at this
   rw [decide_eq_false (show ¬ ((x.length : Int) > 2000) by omega)] at this
   exact this)).1
  have chks : ∀ y ∈ x, y.f_At ≠ 345686399999 := fun y hy e => by
   have := (hx y hy).2.2
   unfold NearAt at this
   omega
  have c3 : changedC x putD = (x, [], 0) := by
   unfold changedC
   rw [putD_run chks, decide_eq_false (by simp only; omega)]
   have : sortI cmpC x = x := (sorted_one ords_cmpC (fun a ha b hb e => one_eq (faultL_one fx).1 ha hb (key_cmp.2 e)) (sortI_perm cmpC x) (sortI_sorted (ords_cmpC.pre (fun _ => True)) x (fun _ _ => trivial)) (strict.imp fun h => by omega))
   rw [this]
   rfl
  have lr : (refs 0 x c).length ≤ 1000 := by
   have := l1.2
   rw [runC_refs] at this
   simp at this
   omega
  have hloop : ∀ (e0 : Int → List G_Contact → List G_Contact → List G_Change → Option R), keep_ChangesCanGoBack_L9 I_keep_ChangesCanGoBack NN 0 (c.length : Int) 0 x c (sortI cmpC (runC 0 x [] c).1) (refs 0 x c) [] e0 = e0 0 x (sortI cmpC (runC 0 x [] c).1) (okL x c) := fun e0 =>
   GB_L9 0 x (sortI cmpC (runC 0 x [] c).1) c (by omega) (refs 0 x c) lr c NN 0 x [] [] rfl (by have := NN_ok; omega) rfl (fun y h => by cases h) (by simp) R e0
  have a1 : ∀ k : List G_Contact → List Int → Int → Option R, log_Changed x c k = k (sortI cmpC (runC 0 x [] c).1) (refs 0 x c) 0 := fun k => by
   rw [log_Changed_is fxx fcc (by omega) (by omega), c1, fx, h0]; rfl
  have a2 : ∀ k : List G_Contact → List Int → Int → Option R, log_Changed x (okL x c) k = k (sortI cmpC (runC 0 x [] c).1) [] 0 := fun k => by
   rw [log_Changed_is fxx fdd (by omega) (by omega), c2, fx, fd]; rfl
  have a3 : ∀ k : List G_Contact → List Int → Int → Option R, log_Changed x putD k = k x [] 0 := fun k => by
   rw [log_Changed_is fxx putD_fine (by omega) (by simp [putD]), c3, fx, putD_ok]; rfl
  have q1 : ∀ k : Bool → Option R, slices_Equal__Contact (sortI cmpC (runC 0 x [] c).1) (sortI cmpC (runC 0 x [] c).1) k = k true := fun k => equalC_is (by rw [sortI_length]; omega) R k
  have q2 : ∀ k : Bool → Option R, slices_Equal__Contact x x k = k true := fun k => equalC_is (by omega) R k
  have hz : [(⟨1, 1, (⟨0, 0, [], [], 0, 0, [], []⟩ : G_Contact), (⟨345686399999, 1, [98, 50, 48], [107, 49, 97, 98], 0, 0, [], []⟩ : G_Contact)⟩ : G_Change), (⟨2, 2, (⟨345686399999, 1, [98, 50, 48], [107, 49, 97, 98], 0, 0, [], []⟩ : G_Contact), (⟨0, 0, [], [], 0, 0, [], []⟩ : G_Contact)⟩ : G_Change)] = putD := rfl
  simp only [I_keep_ChangesCanGoBack] at hloop
  simp only [keep_ChangesCanGoBack, keep_ChangesCanGoBack_, I_keep_ChangesCanGoBack, e1, e2, e3, hcf, h0, bne_self_eq_false, cond_false, a1, hloop, a2, keep_errs_is [0, 0] (by simp), show orL [0, 0] = 0 from rfl, show ((([] : List Int).length : Int) != 0) = false from rfl, q1, Bool.not_true, hz, a3, beq_self_eq_true, show ((([] : List Int).length : Int) == 0) = true from rfl, cond_true, q2, hrd]
 ·have : (faultH c != 0) = true := by simpa using h0
  simp only [keep_ChangesCanGoBack, keep_ChangesCanGoBack_, I_keep_ChangesCanGoBack, e1, e2, e3, hcf, this, cond_true, hrd]
end Go.Am
