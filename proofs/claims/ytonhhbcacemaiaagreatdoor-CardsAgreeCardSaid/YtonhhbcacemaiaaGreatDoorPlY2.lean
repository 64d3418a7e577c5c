/- The plain law, in Lean alone: Y2. No condition: lemmas for the claim. -/
import Derived.Test.YtonhhbcacemaiaaGreatDoorPlY1
import Derived.Test.YtonhhbcacemaiaaGreatDoorPlD3
import Derived.Test.YtonhhbcacemaiaaGreatDoorPlB4
set_option linter.unusedVariables false
set_option linter.unusedSectionVars false
set_option linter.unusedSimpArgs false
set_option maxRecDepth 100000
namespace Go.Am
open Go Go.Proofs
variable [Fuel]
theorem keep_errs_loop (l : List Int) (hl : l.length < 1000000) : ∀ (xs : List Int) (n i : Nat), l.drop i = xs → xs.length < n → ∀ (R : Type) (k : Int → Option R),
  keep_errs_L2 NN n l (l.length : Int) (i : Int) (fun e => k e) (k 0) = k (orL xs)
 | _, 0, _, _, h, _, _ => by omega
 | [], n + 1, i, h, _, R, k => by rw [keep_errs_L2, ge_drop h]; rfl
 | x :: xs, n + 1, i, h, hn, R, k => by
  have h' := drop_cons h
  have ih := keep_errs_loop l hl xs n (i + 1) h'.2.2.1 (by simp at hn; omega) R k
  rw [keep_errs_L2, lt_drop h]
  simp only [cond_true, get_drop h, w64_succ (show i < 4611686018427387904 by omega), ih, orL]
  cases x != 0 <;> rfl
theorem keep_errs_is (l : List Int) (hl : l.length < 1000000) (R : Type) (k : Int → Option R) : keep_errs l k = k (orL l) :=
 keep_errs_loop l hl l NN 0 rfl (by have := NN_ok; omega) R k
theorem faultKs_up : ∀ (l : List G_Card) (q : G_Card), faultKs (some q) l = 0 → (∀ x ∈ l, cmpK q x < 0) ∧ l.Pairwise fun a b => cmpK a b < 0
 | [], q, _ => ⟨(fun x h => by cases h), .nil⟩
 | c :: cs, q, h => by
  unfold faultKs at h
  cases hq : chkK c != 0 with
  | true => rw [hq] at h; simp only [cond_true] at h; rw [h] at hq; cases hq
  | false =>
   rw [hq] at h
   simp only [cond_false] at h
   cases hd : decide (cmpK q c ≥ 0) with
   | true => rw [hd] at h; simp only [cond_true] at h; omega
   | false =>
    rw [hd] at h
    simp only [cond_false] at h
    obtain ⟨g1, g2⟩ := faultKs_up cs c h
    have hlt : cmpK q c < 0 := by have := of_decide_eq_false hd; omega
    refine ⟨fun x hx => ?_, List.pairwise_cons.2 ⟨g1, g2⟩⟩
    rcases List.mem_cons.1 hx with rfl | hx
    ·exact hlt
    ·exact ords_lt_trans ords_cmpK (fun _ _ => cmpK_zero) hlt (g1 x hx)
theorem faultK_up {l : List G_Card} (h : faultK l = 0) : l.Pairwise fun a b => cmpK a b < 0 := by
 unfold faultK at h
 cases hd : decide ((l.length : Int) > 3000) with
 | true => rw [hd] at h; simp only [cond_true] at h; omega
 | false =>
  rw [hd] at h
  simp only [cond_false] at h
  cases l with
  | nil => exact .nil
  | cons c cs =>
   unfold faultKs at h
   cases hq : chkK c != 0 with
   | true => rw [hq] at h; simp only [cond_true] at h; rw [h] at hq; cases hq
   | false =>
    rw [hq] at h
    simp only [cond_false] at h
    obtain ⟨g1, g2⟩ := faultKs_up cs c h
    exact List.pairwise_cons.2 ⟨g1, g2⟩
theorem faultKs_of : ∀ (l : List G_Card) (q : G_Card), (∀ c ∈ l, chkK c = 0) → (q :: l).Pairwise (fun a b => cmpK a b < 0) → faultKs (some q) l = 0
 | [], q, _, _ => rfl
 | c :: cs, q, hc, hp => by
  have h1 := List.pairwise_cons.1 hp
  unfold faultKs
  rw [hc c (by simp)]
  simp only [bne_self_eq_false, cond_false]
  rw [decide_eq_false (show ¬ cmpK q c ≥ 0 by have := h1.1 c (by simp); omega)]
  exact faultKs_of cs c (fun x hx => hc x (by simp [hx])) h1.2
theorem faultK_of {l : List G_Card} (hl : l.length ≤ 3000) (hc : ∀ c ∈ l, chkK c = 0) (hp : l.Pairwise (fun a b => cmpK a b < 0)) : faultK l = 0 := by
 unfold faultK
 rw [decide_eq_false (by omega)]
 cases l with
 | nil => rfl
 | cons c cs =>
  simp only [cond_false]
  unfold faultKs
  rw [hc c (by simp)]
  simp only [bne_self_eq_false, cond_false]
  exact faultKs_of cs c (fun x hx => hc x (by simp [hx])) hp
theorem merge_same {x p q : List G_Card} (hx : x.Pairwise fun a b => cmpK a b < 0) (hm : ∀ c, c ∈ x ↔ c ∈ p ++ q) : mergeK p q = x := by
 have hs : (sortI cmpK (p ++ q)).Pairwise fun a b => cmpK a b ≤ 0 := sortI_sorted (ords_cmpK.pre (fun _ => True)) _ (fun _ _ => trivial)
 obtain ⟨g1, g2⟩ := compact_strict ords_cmpK (fun _ _ => cmpK_zero) (eq := eq_G_Card) eq_G_Card_is hs
 exact strict_one ords_cmpK g1 hx fun c => by rw [show c ∈ mergeK p q ↔ c ∈ compactP eq_G_Card (sortI cmpK (p ++ q)) from Iff.rfl, g2, sortI_mem, hm]
theorem Stream_RightCards_loop (m : Nat) (hm : m ≤ 20) : ∀ (j n i : Nat) (b : Int) (s : G_Stream), i + j = 5 → j < n → SOk b s → b + 400 * (j : Int) ≤ 900000 →
  ∃ (r : List G_Card) (s' : G_Stream), SOk (b + 400 * (j : Int)) s' ∧ r.length ≤ m ∧ (∀ c ∈ r, FineK c) ∧ faultK r = 0 ∧ ∀ (R : Type) (k : List G_Card → G_Stream → Option R), Stream_RightCards_L2 I_Stream_RightCards n (m : Int) (i : Int) s (fun e12 e13 => k e13 e12) (fun e14 => k [] e14) = k r s'
 | _, 0, _, _, _, _, h, _, _ => by omega
 | 0, n + 1, i, b, s, hi, _, hs, hb => ⟨[], s, hs.mono (by omega), by simp, (fun c h => by cases h), rfl, fun R k => by rw [Stream_RightCards_L2, decide_eq_false (by omega)]; rfl⟩
 | j + 1, n + 1, i, b, s, hi, hn, hs, hb => by
  obtain ⟨r, s1, z1, l1, f1, e1⟩ := Stream_Cards_gives hs (by omega) m hm
  have hm' : (m : Int) ≤ 20 := by omega
  have e1' : ∀ {R : Type} (k : List G_Card → G_Stream → Option R), I_Stream_RightCards.Stream_Cards s (m : Int) k = k r s1 := fun k => e1 _ k
  have hq : ∀ {R : Type} (k : Int → Option R), I_Stream_RightCards.Q_CardsFault r k = k (faultK r) := fun k => Q_CardsFault_is f1 (by omega) _ k
  by_cases h0 : faultK r = 0
  ·refine ⟨r, s1, z1.mono (by omega), l1, f1, h0, fun R k => ?_⟩
   rw [Stream_RightCards_L2, decide_eq_true (by omega)]
   simp only [cond_true, e1', hq, h0, beq_self_eq_true]
  ·obtain ⟨r', s', g1, g2, g3, g4, g5⟩ := Stream_RightCards_loop m hm j n (i + 1) (b + 400) s1 (by omega) (by omega) (z1.mono (by omega)) (by omega)
   refine ⟨r', s', g1.mono (by omega), g2, g3, g4, fun R k => ?_⟩
   rw [Stream_RightCards_L2, decide_eq_true (by omega)]
   simp only [cond_true, e1', hq, beq_eq_false_iff_ne.2 h0, cond_false, w64_succ (show i < 4611686018427387904 by omega), g5]
theorem Stream_RightCards_gives {b : Int} {s : G_Stream} (hs : SOk b s) (hb : b ≤ 100000) (m : Nat) (hm : m ≤ 20) :
  ∃ (r : List G_Card) (s' : G_Stream), SOk (b + 2000) s' ∧ r.length ≤ m ∧ (∀ c ∈ r, FineK c) ∧ faultK r = 0 ∧ ∀ (R : Type) (k : List G_Card → G_Stream → Option R), Stream_RightCards s (m : Int) k = k r s' := by
 obtain ⟨r, s', g1, g2, g3, g4, g5⟩ := Stream_RightCards_loop m hm 5 NN 0 b s (by omega) (by have := NN_ok; omega) hs (by omega)
 exact ⟨r, s', g1.mono (by omega), g2, g3, g4, fun R k => g5 R k⟩
theorem keep_parts_loop (d : List G_Card) (hl : d.length ≤ 100) : ∀ (xs : List G_Card) (n i : Nat) (b : Int) (s : G_Stream) (p q : List G_Card), d.drop i = xs → xs.length < n → SOk b s → b + (xs.length : Int) ≤ 900000 → p.length ≤ i → q.length ≤ i →
  ∃ (p1 q1 : List G_Card) (s' : G_Stream), SOk (b + (xs.length : Int)) s' ∧ p1.Sublist xs ∧ q1.Sublist xs ∧ (∀ x ∈ xs, x ∈ p1 ∨ x ∈ q1) ∧ ∀ (R : Type) (e0 : G_Stream → List G_Card → List G_Card → Option R), keep_parts__Card_L3 I_keep_parts__Card n d (d.length : Int) (i : Int) s p q e0 = e0 s' (p ++ p1) (q ++ q1)
 | _, 0, _, _, _, _, _, _, h, _, _, _, _ => by omega
 | [], n + 1, i, b, s, p, q, h, _, hs, _, _, _ => ⟨[], [], s, hs.mono (by simp), .slnil, .slnil, (fun x h => by cases h), fun R e0 => by rw [keep_parts__Card_L3, ge_drop h]; simp⟩
 | x :: xs, n + 1, i, b, s, p, q, h, hn, hs, hb, hp, hq => by
  have h' := drop_cons h
  simp only [List.length_cons] at hn hb
  obtain ⟨r, s1, r1, r2, z1, e1⟩ := Stream_Next_gives hs 3 (by omega) (by omega)
  have e1' : ∀ {R : Type} (k : Int → G_Stream → Option R), I_keep_parts__Card.Stream_Next s 3 k = k r s1 := fun k => e1 _ k
  have hw : w64 ((i : Int) + 1) = ((i + 1 : Nat) : Int) := w64_succ (by omega)
  have rp := room1 p x 56 (show p.length ≤ 1000000 by omega) (by omega)
  have rq := room1 q x 56 (show q.length ≤ 1000000 by omega) (by omega)
  by_cases h0 : r = 0
  ·obtain ⟨p1, q1, s', g1, g2, g3, g4, g5⟩ := keep_parts_loop d hl xs n (i + 1) (b + 1) s1 (p ++ [x]) q h'.2.2.1 (by omega) z1 (by omega) (by simp; omega) (by omega)
   refine ⟨x :: p1, q1, s', g1.mono (by simp; omega), g2.cons_cons x, g3.cons x, fun y hy => ?_, fun R e0 => ?_⟩
   ·rcases List.mem_cons.1 hy with rfl | hy
    ·exact .inl (by simp)
    ·rcases g4 y hy with h | h
     ·exact .inl (by simp [h])
     ·exact .inr h
   ·rw [keep_parts__Card_L3, lt_drop h]
    simp only [cond_true, get_drop h, e1', h0, beq_self_eq_true, rp, hw, g5, List.append_assoc, List.singleton_append]
  ·by_cases h1 : r = 1
   ·obtain ⟨p1, q1, s', g1, g2, g3, g4, g5⟩ := keep_parts_loop d hl xs n (i + 1) (b + 1) s1 p (q ++ [x]) h'.2.2.1 (by omega) z1 (by omega) (by omega) (by simp; omega)
    refine ⟨p1, x :: q1, s', g1.mono (by simp; omega), g2.cons x, g3.cons_cons x, fun y hy => ?_, fun R e0 => ?_⟩
    ·rcases List.mem_cons.1 hy with rfl | hy
     ·exact .inr (by simp)
     ·rcases g4 y hy with h | h
      ·exact .inl h
      ·exact .inr (by simp [h])
    ·rw [keep_parts__Card_L3, lt_drop h]
     simp only [cond_true, get_drop h, e1', h1, show ((1 : Int) == 0) = false from rfl, cond_false, beq_self_eq_true, rq, hw, g5, List.append_assoc, List.singleton_append]
   ·obtain ⟨p1, q1, s', g1, g2, g3, g4, g5⟩ := keep_parts_loop d hl xs n (i + 1) (b + 1) s1 (p ++ [x]) (q ++ [x]) h'.2.2.1 (by omega) z1 (by omega) (by simp; omega) (by simp; omega)
    refine ⟨x :: p1, x :: q1, s', g1.mono (by simp; omega), g2.cons_cons x, g3.cons_cons x, fun y hy => ?_, fun R e0 => ?_⟩
    ·rcases List.mem_cons.1 hy with rfl | hy
     ·exact .inl (by simp)
     ·rcases g4 y hy with h | h
      ·exact .inl (by simp [h])
      ·exact .inr (by simp [h])
    ·rw [keep_parts__Card_L3, lt_drop h]
     simp only [cond_true, get_drop h, e1', beq_eq_false_iff_ne.2 h0, beq_eq_false_iff_ne.2 h1, cond_false, rp, rq, hw, g5, List.append_assoc, List.singleton_append]
theorem keep_parts_gives {b : Int} {s : G_Stream} (hs : SOk b s) (hb : b ≤ 100000) {d : List G_Card} (hl : d.length ≤ 100) :
  ∃ (p q : List G_Card) (s' : G_Stream), SOk (b + 100) s' ∧ p.Sublist d ∧ q.Sublist d ∧ (∀ x ∈ d, x ∈ p ∨ x ∈ q) ∧ ∀ (R : Type) (k : List G_Card → List G_Card → G_Stream → Option R), keep_parts__Card s d k = k p q s' := by
 obtain ⟨p, q, s', g1, g2, g3, g4, g5⟩ := keep_parts_loop d hl d NN 0 b s [] [] rfl (by have := NN_ok; omega) hs (by omega) (by simp) (by simp)
 exact ⟨p, q, s', g1.mono (by omega), g2, g3, g4, fun R k => g5 R fun e15 e16 e17 => k e16 e17 e15⟩
theorem confK_pre (a : Int) : ∀ (l out : List G_Card), ∃ t, confK a out l = out ++ t
 | [], out => ⟨[], by simp [confK]⟩
 | c :: cs, out => by
  unfold confK
  cases (decide (c.f_At ≤ a) && (c.f_Kind == 2 && !(out.any fun o => decide (keyK o = keyK c)))) with
  | true =>
   obtain ⟨t, ht⟩ := confK_pre a cs (out ++ [c])
   exact ⟨c :: t, by simp [ht]⟩
  | false =>
   obtain ⟨t, ht⟩ := confK_pre a cs out
   exact ⟨t, by simp [ht]⟩
theorem confK_late (a : Int) : ∀ (l out : List G_Card), (∀ c ∈ l, a < c.f_At) → confK a out l = out
 | [], out, _ => rfl
 | c :: cs, out, h => by
  unfold confK
  rw [decide_eq_false (show ¬ c.f_At ≤ a by have := h c (by simp); omega)]
  exact confK_late a cs out fun x hx => h x (by simp [hx])
theorem confK_grow {a b : Int} (hab : a ≤ b) : ∀ (l out : List G_Card), l.Pairwise (fun x y => x.f_At ≤ y.f_At) → ∃ t, confK b out l = confK a out l ++ t
 | [], out, _ => ⟨[], by simp [confK]⟩
 | c :: cs, out, hp => by
  have h1 := List.pairwise_cons.1 hp
  by_cases hc : c.f_At ≤ a
  ·unfold confK
   rw [decide_eq_true hc, decide_eq_true (show c.f_At ≤ b by omega)]
   simp only [Bool.true_and]
   cases (c.f_Kind == 2 && !(out.any fun o => decide (keyK o = keyK c))) with
   | true => exact confK_grow hab cs (out ++ [c]) h1.2
   | false => exact confK_grow hab cs out h1.2
  ·rw [confK_late a (c :: cs) out fun x hx => by
    rcases List.mem_cons.1 hx with rfl | hx
    ·omega
    ·have := h1.1 x hx; omega]
   exact confK_pre b (c :: cs) out
theorem cmpK_at {x y : G_Card} (h : cmpK x y < 0) : x.f_At ≤ y.f_At := by
 unfold cmpK orL at h
 unfold cmpI at h
 by_cases h1 : x.f_At < y.f_At
 ·omega
 ·by_cases h2 : x.f_At > y.f_At
  ·rw [decide_eq_false h1, decide_eq_true h2] at h; simp at h
  ·omega
theorem owedL_mem (f : G_Card → Bool) : ∀ (l : List G_Card) (out : List G_Pair) (y : G_Pair), y ∈ owedL f out l → y ∈ out ∨ ∃ c ∈ l, y = pairK c
 | [], out, y, h => .inl h
 | c :: cs, out, y, h => by
  unfold owedL at h
  cases hq : f c with
  | false =>
   rw [hq] at h
   simp only [Bool.not_false, cond_true] at h
   rcases owedL_mem f cs _ y h with h | ⟨x, hx, h⟩
   ·rcases List.mem_append.1 h with h | h
    ·exact .inl h
    ·simp at h; exact .inr ⟨c, by simp, h⟩
   ·exact .inr ⟨x, by simp [hx], h⟩
  | true =>
   rw [hq] at h
   simp only [Bool.not_true, cond_false] at h
   rcases owedL_mem f cs _ y h with h | ⟨x, hx, h⟩
   ·exact .inl h
   ·exact .inr ⟨x, by simp [hx], h⟩
def prefB (s p : List UInt8) : Bool := decide (s.length ≥ p.length) && s.take p.length == p
theorem strings_HasPrefix_is (s p : List UInt8) (R : Type) (k : Bool → Option R) : strings_HasPrefix s p k = k (prefB s p) := by
 show stringslite_HasPrefix s p k = _
 simp only [stringslite_HasPrefix, stringslite_HasPrefix_, prefB]
 by_cases h : s.length ≥ p.length
 ·rw [decide_eq_true (show (s.length : Int) ≥ (p.length : Int) by omega), decide_eq_true (show (0 : Int) ≤ (p.length : Int) by omega), decide_eq_true h]
  rfl
 ·rw [decide_eq_false (show ¬ (s.length : Int) ≥ (p.length : Int) by omega), decide_eq_false h]
  rfl
noncomputable def ownB (y : G_Pair) (c : G_Card) : Bool := baseB c.f_Call == y.f_Name && prefB y.f_Value (c.f_Band ++ [32])
theorem keep_CardsAgree_1_is {c : G_Card} (hc : FineK c) (y : G_Pair) (R : Type) (k : Bool → G_Pair → Option R) : keep_CardsAgree_1 c y k = k (ownB y c) y := by
 have h1 : ∀ k : List UInt8 → Option R, I_keep_CardsAgree_1.Q_BaseOf c.f_Call k = k (baseB c.f_Call) := fun k => Q_BaseOf_is hc.call R k
 have h2 : ∀ (s p : List UInt8) (k : Bool → Option R), I_keep_CardsAgree_1.strings_HasPrefix s p k = k (prefB s p) := fun s p k => strings_HasPrefix_is s p R k
 have h3 : strOk c.f_Band [32] = true := strOk_is (by have := keysL_len c.f_Band hc.band; simp; omega)
 simp only [keep_CardsAgree_1, keep_CardsAgree_1_, h1, h2, h3, cond_true, ownB]
 cases baseB c.f_Call == y.f_Name <;> rfl
theorem con_own {l : List G_Card} (hf : ∀ c ∈ l, FineK c) (hl : l.length ≤ 100000) (y : G_Pair) (R : Type) (k : Bool → G_Pair → Option R) : slices_ContainsFunc__Card_keep_CardsAgree_1 l y k = k (l.any (ownB y)) y := by
 simp only [slices_ContainsFunc__Card_keep_CardsAgree_1, slices_ContainsFunc__Card_keep_CardsAgree_1_, I_slices_ContainsFunc__Card_keep_CardsAgree_1, li_slices_IndexFunc__Card_keep_CardsAgree_1]
 rw [sIndexF_is _ (ownB y) y l (fun x hx R k => keep_CardsAgree_1_is (hf x hx) y R k) (by have := NN_ok; omega) (by have := NN_ok; omega), idxI_ge]
theorem own_pair (c : G_Card) : ownB (pairK c) c = true := by
 unfold ownB pairK prefB
 simp only [beq_self_eq_true, Bool.true_and]
 rw [List.take_left, decide_eq_true (by simp)]
 simp
theorem keep_CardsAgree_L12_is (a : List G_Card) (hf : ∀ c ∈ a, FineK c) (hl : a.length ≤ 100000) (o : List G_Pair) (ho : ∀ y ∈ o, ∃ c ∈ a, y = pairK c) (hol : o.length ≤ 100000) : ∀ (xs : List G_Pair) (n i : Nat), o.drop i = xs → xs.length < n →
  ∀ (R : Type) (e0 : Bool → Option R) (e1 : Option R), keep_CardsAgree_L12 I_keep_CardsAgree n (o.length : Int) (i : Int) a o e0 e1 = e1
 | _, 0, _, _, h, _, _, _ => by omega
 | [], n + 1, i, h, _, R, e0, e1 => by rw [keep_CardsAgree_L12, ge_drop h]; rfl
 | y :: xs, n + 1, i, h, hn, R, e0, e1 => by
  have h' := drop_cons h
  simp at hn
  have ih := keep_CardsAgree_L12_is a hf hl o ho hol xs n (i + 1) h'.2.2.1 (by omega) R e0 e1
  obtain ⟨c, hc, e⟩ := ho y (mem_drop h)
  have hany : a.any (ownB y) = true := List.any_eq_true.2 ⟨c, hc, by rw [e]; exact own_pair c⟩
  have hk : ∀ k : Bool → G_Pair → Option R, I_keep_CardsAgree.slices_ContainsFunc__Card_keep_CardsAgree_1 a y k = k true y := fun k => by rw [← hany]; exact con_own hf hl y R k
  rw [keep_CardsAgree_L12, lt_drop h]
  simp only [cond_true, inr_drop h, at_drop h, hk, Bool.not_true, cond_false, w64_succ (show i < 4611686018427387904 by omega), ih]
theorem keep_CardsAgree_true (l : List Int) (R : Type) (k : Bool → Option R) : keep_CardsAgree l k = k true := by
 obtain ⟨m, s1, m1, m2, z1, e1⟩ := Stream_Range_gives (sOk0 l) 0 14 (by omega) (by omega) (by omega) (by omega) (by omega)
 obtain ⟨m, rfl⟩ := Int.eq_ofNat_of_zero_le m1
 obtain ⟨x, s2, z2, lx, hx, fx, e2⟩ := Stream_RightCards_gives z1 (by omega) m (by omega)
 obtain ⟨at0, s3, a1, a2, z3, e3⟩ := Stream_Range_gives z2 0 100 (by omega) (by omega) (by omega) (by omega) (by omega)
 obtain ⟨p, q, s4, z4, hp, hq, hpq, e4⟩ := keep_parts_gives z3 (by omega) (show x.length ≤ 100 by omega)
 obtain ⟨n, s5, n1, n2, z5, e5⟩ := Stream_Range_gives z4 0 50 (by omega) (by omega) (by omega) (by omega) (by omega)
 have up := faultK_up fx
 have chk := faultK_chk fx
 have lp := hp.length_le
 have lq := hq.length_le
 have fp : faultK p = 0 := faultK_of (by omega) (fun c hc => chk c (hp.subset hc)) (up.sublist hp)
 have fq : faultK q = 0 := faultK_of (by omega) (fun c hc => chk c (hq.subset hc)) (up.sublist hq)
 have hfp : ∀ c ∈ p, FineK c := fun c hc => hx c (hp.subset hc)
 have hfq : ∀ c ∈ q, FineK c := fun c hc => hx c (hq.subset hc)
 have g1 : mergeK p q = x := merge_same up fun c => ⟨fun hc => List.mem_append.2 (hpq c hc), fun hc => by
  rcases List.mem_append.1 hc with h | h
  ·exact hp.subset h
  ·exact hq.subset h⟩
 have g2 : mergeK q p = x := merge_same up fun c => ⟨fun hc => List.mem_append.2 (hpq c hc).symm, fun hc => by
  rcases List.mem_append.1 hc with h | h
  ·exact hq.subset h
  ·exact hp.subset h⟩
 have d1 : mergedK p q = (x, 0) := by unfold mergedK; rw [g1, decide_eq_false (by omega)]; rfl
 have d2 : mergedK q p = (x, 0) := by unfold mergedK; rw [g2, decide_eq_false (by omega)]; rfl
 have w : w64 (at0 + n) = at0 + n := w64_eq (by omega) (by omega)
 have mom : ∀ y : Int, 0 ≤ y → y ≤ 1000 → momB y = true := fun y h1 h2 => inB_is.2 ⟨h1, by omega⟩
 have fa : faultAt x at0 = 0 := by unfold faultAt; rw [fx, mom at0 (by omega) (by omega)]; rfl
 have fb : faultAt x (at0 + n) = 0 := by unfold faultAt; rw [fx, mom (at0 + n) (by omega) (by omega)]; rfl
 obtain ⟨t, ht⟩ := confK_grow (show at0 ≤ at0 + n by omega) x [] (up.imp fun h => cmpK_at h)
 have ca := confK_len at0 x []
 have cb := confK_len (at0 + n) x []
 simp only [List.length_nil, Nat.zero_add] at ca cb
 have hca : ∀ c ∈ confK at0 [] x, FineK c := fun c hc => by
  rcases confK_mem at0 x [] c hc with h | h
  ·cases h
  ·exact hx c h
 have hol : (owedK at0 x).length ≤ (confK at0 [] x).length := by
  have := owedL_len (fun c => sentF at0 (keyK c) false x) (confK at0 [] x) []
  unfold owedK
  rw [sortI_length]
  simpa using this
 have hom : ∀ y ∈ owedK at0 x, ∃ c ∈ confK at0 [] x, y = pairK c := fun y hy => by
  unfold owedK at hy
  rcases owedL_mem _ _ _ _ (sortI_mem.1 hy) with h | h
  ·cases h
  ·exact h
 have hlen : (confK at0 [] x).length ≤ (confK (at0 + n) [] x).length := by rw [ht, List.length_append]; omega
 have htake : (confK (at0 + n) [] x).take (confK at0 [] x).length = confK at0 [] x := by rw [ht]; simp
 have hloop : ∀ (e0 : Bool → Option R) (e1 : Option R), keep_CardsAgree_L12 I_keep_CardsAgree NN ((owedK at0 x).length : Int) 0 (confK at0 [] x) (owedK at0 x) e0 e1 = e1 := fun e0 e1 =>
  keep_CardsAgree_L12_is (confK at0 [] x) hca (by omega) (owedK at0 x) hom (by omega) (owedK at0 x) NN 0 rfl (by have := NN_ok; omega) R e0 e1
 simp only [I_keep_CardsAgree] at hloop
 simp only [keep_CardsAgree, keep_CardsAgree_, I_keep_CardsAgree, e1, e2, e3, e4, e5, club_MergeCards_is hfp hfq (show p.length ≤ 1000 by omega) (show q.length ≤ 1000 by omega), club_MergeCards_is hfq hfp (show q.length ≤ 1000 by omega) (show p.length ≤ 1000 by omega),
  show orL [faultK p, faultK q] = 0 by rw [fp, fq]; rfl, show orL [faultK q, faultK p] = 0 by rw [fp, fq]; rfl, d1, d2, w, club_Confirmed_is hx (show x.length ≤ 100000 by omega), club_Owed_is hx (show x.length ≤ 100000 by omega), fa, fb, bne_self_eq_false, cond_false,
  keep_errs_is [0, 0, 0, 0, 0] (by simp), show orL [0, 0, 0, 0, 0] = 0 from rfl, equalK_is (show x.length ≤ 1000000 by omega), Bool.not_true,
  decide_eq_false (show ¬ ((confK at0 [] x).length : Int) > ((confK (at0 + n) [] x).length : Int) by omega), decide_eq_true (show (0 : Int) ≤ ((confK at0 [] x).length : Int) by omega), decide_eq_true (show ((confK at0 [] x).length : Int) ≤ ((confK (at0 + n) [] x).length : Int) by omega), Bool.true_and, cond_true, Int.toNat_natCast, htake,
  equalK_is (show (confK at0 [] x).length ≤ 1000000 by omega), decide_eq_false (show ¬ ((owedK at0 x).length : Int) > ((confK at0 [] x).length : Int) by omega), hloop]
 exact keep_ready_is R k
end Go.Am
