/- The plain law, in Lean alone: Y6. No condition: lemmas for the claim. -/
import Derived.Test.YtocbeijefjbpgaaGreatDoorPlY0
import Derived.Test.YtocbeijefjbpgaaGreatDoorPlC2
import Derived.Test.YtocbeijefjbpgaaGreatDoorPlH4
import Derived.Test.YtocbeijefjbpgaaGreatDoorPlB4
set_option linter.unusedVariables false
set_option linter.unusedSectionVars false
set_option linter.unusedSimpArgs false
set_option maxRecDepth 100000
namespace Go.Am
open Go Go.Proofs
variable [Fuel]
theorem RightContacts_loop (m : Nat) (hm : m ≤ 20) : ∀ (j n i : Nat) (b : Int) (s : G_Stream), i + j = 5 → j < n → SOk b s → b + 700 * (j : Int) ≤ 900000 →
  ∃ (r : List G_Contact) (s' : G_Stream), SOk (b + 700 * (j : Int)) s' ∧ r.length ≤ m ∧ (∀ c ∈ r, Fine c) ∧ faultL r = 0 ∧ ∀ (R : Type) (k : List G_Contact → G_Stream → Option R), Stream_RightContacts_L2 I_Stream_RightContacts n (m : Int) (i : Int) s (fun e12 e13 => k e13 e12) (fun e14 => k [] e14) = k r s'
 | _, 0, _, _, _, _, h, _, _ => by omega
 | 0, n + 1, i, b, s, hi, _, hs, hb => ⟨[], s, hs.mono (by omega), by simp, (fun c h => by cases h), rfl, fun R k => by rw [Stream_RightContacts_L2, decide_eq_false (by omega)]; rfl⟩
 | j + 1, n + 1, i, b, s, hi, hn, hs, hb => by
  obtain ⟨r, s1, z1, l1, f1, e1⟩ := Stream_Contacts_gives hs (by omega) m hm
  have hm' : (m : Int) ≤ 20 := by omega
  have e1' : ∀ {R : Type} (k : List G_Contact → G_Stream → Option R), I_Stream_RightContacts.Stream_Contacts s (m : Int) k = k r s1 := fun k => e1 _ k
  have hq : ∀ {R : Type} (k : Int → Option R), I_Stream_RightContacts.Q_LogFault r k = k (faultL r) := fun k => Q_LogFault_is (fun c hc => (f1 c hc).1) (by omega) _ k
  by_cases h0 : faultL r = 0
  ·refine ⟨r, s1, z1.mono (by omega), l1, fun c hc => (f1 c hc).1, h0, fun R k => ?_⟩
   rw [Stream_RightContacts_L2, decide_eq_true (by omega)]
   simp only [cond_true, e1', hq, h0, beq_self_eq_true]
  ·obtain ⟨r', s', g1, g2, g3, g4, g5⟩ := RightContacts_loop m hm j n (i + 1) (b + 700) s1 (by omega) (by omega) (z1.mono (by omega)) (by omega)
   refine ⟨r', s', g1.mono (by omega), g2, g3, g4, fun R k => ?_⟩
   rw [Stream_RightContacts_L2, decide_eq_true (by omega)]
   simp only [cond_true, e1', hq, beq_eq_false_iff_ne.2 h0, cond_false, w64_succ (show i < 4611686018427387904 by omega), g5]
theorem RightContacts_gives {b : Int} {s : G_Stream} (hs : SOk b s) (hb : b ≤ 100000) (m : Nat) (hm : m ≤ 20) :
  ∃ (r : List G_Contact) (s' : G_Stream), SOk (b + 3500) s' ∧ r.length ≤ m ∧ (∀ c ∈ r, Fine c) ∧ faultL r = 0 ∧ ∀ (R : Type) (k : List G_Contact → G_Stream → Option R), Stream_RightContacts s (m : Int) k = k r s' := by
 obtain ⟨r, s', g1, g2, g3, g4, g5⟩ := RightContacts_loop m hm 5 NN 0 b s (by omega) (by have := NN_ok; omega) hs (by omega)
 exact ⟨r, s', g1.mono (by omega), g2, g3, g4, fun R k => g5 R k⟩
theorem faultC_chk : ∀ (l : List G_Contact) (p : Option G_Contact), faultC p l = 0 → ∀ c ∈ l, chk c = 0
 | [], _, _, c, h => by cases h
 | x :: xs, p, h, c, hc => by
  unfold faultC at h
  cases hq : chk x != 0 with
  | true => rw [hq] at h; simp only [cond_true] at h; rw [h] at hq; cases hq
  | false =>
   rw [hq] at h
   simp only [cond_false] at h
   have h0 : chk x = 0 := by simpa using hq
   have h2 : faultC (some x) xs = 0 := by
    cases p with
    | none => exact h
    | some q =>
     simp only at h
     cases hd : decide (cmpC q x ≥ 0) with
     | true => rw [hd] at h; simp only [cond_true] at h; omega
     | false => rw [hd] at h; exact h
   rcases List.mem_cons.1 hc with rfl | hc
   ·exact h0
   ·exact faultC_chk xs (some x) h2 c hc
theorem faultC_of : ∀ (l : List G_Contact) (p : Option G_Contact), (∀ c ∈ l, chk c = 0) → l.Pairwise (fun a b => cmpC a b < 0) → (∀ q, p = some q → ∀ c ∈ l, cmpC q c < 0) → faultC p l = 0
 | [], _, _, _, _ => rfl
 | c :: cs, p, hc, hi, hp => by
  have h1 := List.pairwise_cons.1 hi
  have ih := faultC_of cs (some c) (fun x hx => hc x (by simp [hx])) h1.2 (fun q hq x hx => by cases hq; exact h1.1 x hx)
  unfold faultC
  rw [hc c (by simp)]
  simp only [bne_self_eq_false, cond_false]
  cases p with
  | none => exact ih
  | some q =>
   simp only
   rw [decide_eq_false (show ¬ cmpC q c ≥ 0 by have := hp q rfl c (by simp); omega)]
   exact ih
theorem faultL_parts {l : List G_Contact} (h : faultL l = 0) (hl : l.length ≤ 1000) : (∀ c ∈ l, chk c = 0) ∧ l.Pairwise fun a b => cmpC a b < 0 := by
 unfold faultL at h
 rw [decide_eq_false (show ¬ ((l.length : Int) > 2000) by omega)] at h
 exact ⟨faultC_chk l none h, (faultC_one l none h).1⟩
theorem faultL_of {l : List G_Contact} (h1 : ∀ c ∈ l, chk c = 0) (h2 : l.Pairwise fun a b => cmpC a b < 0) (hl : l.length ≤ 1000) : faultL l = 0 := by
 unfold faultL
 rw [decide_eq_false (show ¬ ((l.length : Int) > 2000) by omega)]
 exact faultC_of l none h1 h2 (fun q hq => by cases hq)
theorem chk_sent {c : G_Contact} (h : chk c = 0) : 0 ≤ c.f_Sent ∧ c.f_Sent ≤ 99999 := by
 unfold chk at h
 cases h0 : inB c.f_Sent 0 99999 with
 | true => exact inB_is.1 h0
 | false =>
  rw [h0] at h
  revert h
  cases momB c.f_At <;> cases inB c.f_Mode 1 3 <;> cases keyB c.f_Band <;> cases callB c.f_Call <;> simp
def reS (c : G_Contact) (s : Int) : G_Contact := ⟨c.f_At, c.f_Mode, c.f_Band, c.f_Call, s, c.f_Heard, c.f_Gave, c.f_Got⟩
theorem chk_reS {c : G_Contact} (h : chk c = 0) {s : Int} (h1 : 0 ≤ s) (h2 : s ≤ 99999) : chk (reS c s) = 0 := by
 have hs := chk_sent h
 unfold chk at h ⊢
 rw [inB_is.2 hs] at h
 rw [show inB (reS c s).f_Sent 0 99999 = true from inB_is.2 ⟨h1, h2⟩]
 exact h
def cntI (x : List G_Contact) (n : Int) : Nat := (x.filter fun c => c.f_Sent == n).length
def maxS : Int → List G_Contact → Int
 | m, [] => m
 | m, c :: cs => maxS (if c.f_Sent > m then c.f_Sent else m) cs
theorem cntI_snoc (x : List G_Contact) (c : G_Contact) (n : Int) : cntI (x ++ [c]) n = cntI x n + if c.f_Sent = n then 1 else 0 := by
 unfold cntI
 rw [List.filter_append, List.length_append]
 by_cases h : c.f_Sent = n
 ·simp [h]
 ·simp [h]
theorem cntI_le (x : List G_Contact) (n : Int) : cntI x n ≤ x.length := List.length_filter_le _ _
theorem mgetI (n : Int) (m : List (Int × Int)) : mget_int_int n m = aget keq_int n m := by rw [lm_get_int_int]
theorem msetI (n v : Int) (m : List (Int × Int)) : mset_int_int n v m = aset keq_int n v m := by rw [lm_set_int_int]
theorem keqI {a b : Int} : keq_int a b = decide (a = b) := by
 by_cases h : a = b
 ·rw [decide_eq_true h]; exact (keq_int_is a b).2 h
 ·rw [decide_eq_false h]
  cases hq : keq_int a b with
  | false => rfl
  | true => exact absurd ((keq_int_is a b).1 hq) h
theorem Serials_L7 (l : List G_Contact) (hl : l.length ≤ 1000) : ∀ (xs pre : List G_Contact) (n i : Nat) (last : Int) (m : List (Int × Int)), l.drop i = xs → l = pre ++ xs → xs.length < n → (∀ q, (mget_int_int q m).getD 0 = (cntI pre q : Int)) →
  ∃ m', (∀ q, (mget_int_int q m').getD 0 = (cntI l q : Int)) ∧ ∀ (R : Type) (e0 : Int → List (Int × Int) → Option R), log_Serials_L7 I_log_Serials n last l (l.length : Int) (i : Int) m e0 = e0 (maxS last xs) m'
 | _, _, 0, _, _, _, _, _, h, _ => by omega
 | [], pre, n + 1, i, last, m, h, hp, _, hm => ⟨m, by rw [hp, List.append_nil]; exact hm, fun R e0 => by rw [log_Serials_L7, ge_drop h]; rfl⟩
 | c :: cs, pre, n + 1, i, last, m, h, hp, hn, hm => by
  have h' := drop_cons h
  simp at hn
  have hle := cntI_le pre c.f_Sent
  have hpl : pre.length ≤ l.length := by rw [hp]; simp
  have hw : w64 ((mget_int_int c.f_Sent m).getD 0 + 1) = (cntI pre c.f_Sent : Int) + 1 := by rw [hm, w64_eq (by omega) (by omega)]
  obtain ⟨m', g1, g2⟩ := Serials_L7 l hl cs (pre ++ [c]) n (i + 1) (if c.f_Sent > last then c.f_Sent else last) (mset_int_int c.f_Sent (w64 ((mget_int_int c.f_Sent m).getD 0 + 1)) m) h'.2.2.1 (by rw [hp]; simp) (by omega) (fun q => by
   rw [mgetI, msetI, aget_aset keq_int_is, keqI, cntI_snoc]
   by_cases hq : q = c.f_Sent
   ·subst hq
    rw [decide_eq_true rfl, cond_true, Option.getD_some, hw, if_pos rfl]
    omega
   ·rw [decide_eq_false hq, cond_false, ← mgetI, hm, if_neg (Ne.symm hq)]
    rfl)
  refine ⟨m', g1, fun R e0 => ?_⟩
  rw [log_Serials_L7, lt_drop h]
  simp only [cond_true, get_drop h, w64_succ (show i < 4611686018427387904 by omega)]
  exact g2 R e0
def sumR : List G_Row → Int
 | [] => 0
 | r :: rs => (r.f_To - r.f_From) + sumR rs
theorem sumR_append : ∀ a b : List G_Row, sumR (a ++ b) = sumR a + sumR b
 | [], b => by simp [sumR]
 | r :: rs, b => by simp only [List.cons_append, sumR, sumR_append rs b]; omega
def missF (cn : Int → Nat) : Nat → Nat → Int
 | _, 0 => 0
 | i, j + 1 => (if cn (i : Int) = 0 then 1 else 0) + missF cn (i + 1) j
theorem Serials_L15 (last : Int) (hlast : last ≤ 99999) (m : List (Int × Int)) (cn : Int → Nat) (hm : ∀ q, (mget_int_int q m).getD 0 = (cn q : Int)) : ∀ (j n i : Nat) (rows : List G_Row) (tw : List Int), (i : Int) + (j : Int) = last + 1 → 1 ≤ i → j < n → Can rows → (∀ r ∈ rows, r.f_To ≤ (i : Int)) → rows.length ≤ i → tw.length ≤ i → (∀ t ∈ tw, 1 ≤ t ∧ t ≤ last ∧ 1 < cn t) →
  ∃ (rows' : List G_Row) (tw' : List Int), Can rows' ∧ rows'.length ≤ 100001 ∧ tw'.length ≤ 100001 ∧ (∀ t ∈ tw', 1 ≤ t ∧ t ≤ last ∧ 1 < cn t) ∧ sumR rows' = sumR rows + missF cn i j ∧ ∀ (R : Type) (k : List G_Row → List Int → Option R), log_Serials_L15 I_log_Serials n last (i : Int) m rows tw k = k rows' tw'
 | _, 0, _, _, _, _, _, h, _, _, _, _, _ => by omega
 | 0, n + 1, i, rows, tw, hi, _, _, hc, hr, hrl, htl, ht => ⟨rows, tw, hc, by omega, by omega, ht, by simp [missF], fun R k => by rw [log_Serials_L15, decide_eq_false (by omega)]; rfl⟩
 | j + 1, n + 1, i, rows, tw, hi, h1, hn, hc, hr, hrl, htl, ht => by
  have hw : w64 ((i : Int) + 1) = ((i + 1 : Nat) : Int) := w64_succ (by omega)
  have rmT := room1 tw (i : Int) 8 (show tw.length ≤ 1000000 by omega) (by omega)
  have step := fun rows tw => Serials_L15 last hlast m cn hm j n (i + 1) rows tw (by omega) (by omega) (by omega)
  have hstart : ∀ (R : Type) (k : List G_Row → List Int → Option R), log_Serials_L15 I_log_Serials (n + 1) last (i : Int) m rows tw k = log_Serials_L15 I_log_Serials (n + 1) last (i : Int) m rows tw k := fun R k => rfl
  by_cases c2 : 1 < cn (i : Int)
  ·obtain ⟨rows', tw', g1, g2, g3, g4, g5, g6⟩ := step rows (tw ++ [(i : Int)]) hc (fun r hr' => by have := hr r hr'; omega) (by omega) (by simp; omega) (fun t ht' => by
    rcases List.mem_append.1 ht' with ht' | ht'
    ·exact ht t ht'
    ·simp at ht'; subst ht'; exact ⟨by omega, by omega, c2⟩)
   refine ⟨rows', tw', g1, g2, g3, g4, by rw [g5]; simp only [missF]; rw [if_neg (by omega)]; omega, fun R k => ?_⟩
   rw [log_Serials_L15, decide_eq_true (show (i : Int) ≤ last by omega)]
   simp only [cond_true, hm, decide_eq_true (show (cn (i : Int) : Int) > 1 by omega), rmT, hw]
   exact g6 R k
  ·by_cases c1 : cn (i : Int) = 1
   ·obtain ⟨rows', tw', g1, g2, g3, g4, g5, g6⟩ := step rows tw hc (fun r hr' => by have := hr r hr'; omega) (by omega) (by omega) ht
    refine ⟨rows', tw', g1, g2, g3, g4, by rw [g5]; simp only [missF]; rw [if_neg (by omega)]; omega, fun R k => ?_⟩
    rw [log_Serials_L15, decide_eq_true (show (i : Int) ≤ last by omega)]
    simp only [cond_true, hm, decide_eq_false (show ¬ (cn (i : Int) : Int) > 1 by omega), cond_false, c1, show (((1 : Nat) : Int) == 1) = true from rfl, show decide (((1 : Nat) : Int) > 1) = false from rfl, hw]
    exact g6 R k
   ·have c0 : cn (i : Int) = 0 := by omega
    have rm := room1 rows (⟨(i : Int), ((i + 1 : Nat) : Int)⟩ : G_Row) 16 (show rows.length ≤ 1000000 by omega) (by omega)
    rcases snoc_or rows with rfl | ⟨pre, p, rfl⟩
    ·obtain ⟨rows', tw', g1, g2, g3, g4, g5, g6⟩ := step [⟨(i : Int), ((i + 1 : Nat) : Int)⟩] tw (can_cons.2 ⟨by simp only; omega, (fun x h => by cases h), can_nil⟩) (fun r hr' => by simp at hr'; rw [hr']; simp only; omega) (by simp) (by omega) ht
     refine ⟨rows', tw', g1, g2, g3, g4, by rw [g5]; simp only [missF, sumR]; rw [if_pos c0]; omega, fun R k => ?_⟩
     rw [log_Serials_L15, decide_eq_true (show (i : Int) ≤ last by omega)]
     simp only [cond_true, hm, c0, show decide (((0 : Nat) : Int) > 1) = false from rfl, cond_false, show (((0 : Nat) : Int) == 1) = false from rfl, show decide ((([] : List G_Row).length : Int) > 0) = false from rfl, hw, rm, List.nil_append]
     exact g6 R k
    ·have hcs := can_snoc.1 hc
     have hlast1 : w64 (((pre ++ [p]).length : Int) - 1) = (pre.length : Int) := last_at (by simp at hrl; omega)
     have hgt : decide (((pre ++ [p]).length : Int) > 0) = true := decide_eq_true (by simp)
     have hin : ∀ {R : Type} (k : Option R), inr (pre ++ [p]) (pre.length : Int) k = k := fun k => inr_nat (by simp) k
     have hat : ∀ {R : Type} (k : G_Row → Option R), at_ (pre ++ [p]) (pre.length : Int) k = k p := fun k => at_nat (by simp) k
     have hp := hr p (by simp)
     by_cases ce : p.f_To = (i : Int)
     ·obtain ⟨rows', tw', g1, g2, g3, g4, g5, g6⟩ := step (pre ++ [⟨p.f_From, ((i + 1 : Nat) : Int)⟩]) tw (can_snoc.2 ⟨hcs.1, hcs.2.1, by simp only; have := hcs.2.2; omega⟩) (fun r hr' => by
       rcases List.mem_append.1 hr' with hr' | hr'
       ·have := hr r (by simp [hr']); omega
       ·simp at hr'; rw [hr']; simp only; omega) (by simp at hrl ⊢; omega) (by omega) ht
      refine ⟨rows', tw', g1, g2, g3, g4, by rw [g5, sumR_append, sumR_append]; simp only [missF, sumR]; rw [if_pos c0]; omega, fun R k => ?_⟩
      rw [log_Serials_L15, decide_eq_true (show (i : Int) ≤ last by omega)]
      simp only [cond_true, hm, c0, show decide (((0 : Nat) : Int) > 1) = false from rfl, cond_false, show (((0 : Nat) : Int) == 1) = false from rfl, hgt, hlast1, hin, hat, ce, beq_self_eq_true, hw, set_nat, set_mid]
      exact g6 R k
     ·have hlt : p.f_To < (i : Int) := by omega
      obtain ⟨rows', tw', g1, g2, g3, g4, g5, g6⟩ := step (pre ++ [p] ++ [⟨(i : Int), ((i + 1 : Nat) : Int)⟩]) tw (can_snoc.2 ⟨hc, fun x hx => by
        rcases List.mem_append.1 hx with hx | hx
        ·have := hcs.2.1 x hx; have := hcs.2.2; simp only; omega
        ·simp at hx; rw [hx]; exact hlt, by simp only; omega⟩) (fun r hr' => by
       rcases List.mem_append.1 hr' with hr' | hr'
       ·have := hr r hr'; omega
       ·simp at hr'; rw [hr']; simp only; omega) (by simp at hrl ⊢; omega) (by omega) ht
      refine ⟨rows', tw', g1, g2, g3, g4, by rw [g5, sumR_append]; simp only [missF, sumR]; rw [if_pos c0]; omega, fun R k => ?_⟩
      rw [log_Serials_L15, decide_eq_true (show (i : Int) ≤ last by omega)]
      simp only [cond_true, hm, c0, show decide (((0 : Nat) : Int) > 1) = false from rfl, cond_false, show (((0 : Nat) : Int) == 1) = false from rfl, hgt, hlast1, hin, hat, beq_eq_false_iff_ne.2 ce, hw, rm]
      exact g6 R k
theorem maxS_ge : ∀ (l : List G_Contact) (m : Int), m ≤ maxS m l ∧ ∀ c ∈ l, c.f_Sent ≤ maxS m l
 | [], m => ⟨Int.le_refl _, fun c h => by cases h⟩
 | c :: cs, m => by
  obtain ⟨h1, h2⟩ := maxS_ge cs (if c.f_Sent > m then c.f_Sent else m)
  unfold maxS
  refine ⟨by split at h1 <;> rename_i hh <;> simp only [hh, if_true, if_false] <;> omega, fun x hx => ?_⟩
  rcases List.mem_cons.1 hx with rfl | hx
  ·split at h1 <;> rename_i hh <;> simp only [hh, if_true, if_false] <;> omega
  ·exact h2 x hx
theorem maxS_le : ∀ (l : List G_Contact) (m B : Int), m ≤ B → (∀ c ∈ l, c.f_Sent ≤ B) → maxS m l ≤ B
 | [], m, B, h, _ => h
 | c :: cs, m, B, h, hc => by
  unfold maxS
  exact maxS_le cs _ B (by have := hc c (by simp); split <;> omega) (fun x hx => hc x (by simp [hx]))
theorem log_Serials_gives {l : List G_Contact} (hf : ∀ c ∈ l, Fine c) (h0 : faultL l = 0) (hl : l.length ≤ 1000) : ∃ (T : Nat) (rows : List G_Row) (tw : List Int), (T : Int) = maxS 0 l ∧ T ≤ 99999 ∧ Can rows ∧ rows.length ≤ 100001 ∧ tw.length ≤ 100001 ∧ (∀ t ∈ tw, 1 ≤ t ∧ t ≤ (T : Int) ∧ 1 < cntI l t) ∧ sumR rows = missF (cntI l) 1 T ∧
  ∀ (R : Type) (k : List G_Row → List Int → Int → Option R), log_Serials l k = k rows tw 0 := by
 obtain ⟨hc, _⟩ := faultL_parts h0 hl
 have m1 := (maxS_ge l 0).1
 have m2 := maxS_le l 0 99999 (by omega) (fun c h => (chk_sent (hc c h)).2)
 obtain ⟨T, hT⟩ := Int.eq_ofNat_of_zero_le m1
 obtain ⟨m', g1, g2⟩ := Serials_L7 l hl l [] NN 0 0 [] rfl rfl (by have := NN_ok; omega) (fun q => rfl)
 obtain ⟨rows, tw, r1, r2, r3, r4, r5, r6⟩ := Serials_L15 (maxS 0 l) m2 m' (cntI l) g1 T NN 1 [] [] (by omega) (by omega) (by have := NN_ok; omega) can_nil (fun r h => by cases h) (by simp) (by simp) (fun t h => by cases h)
 refine ⟨T, rows, tw, hT.symm, by omega, r1, r2, r3, (by rw [← hT]; exact r4), by simpa [sumR] using r5, fun R k => ?_⟩
 have a1 : ∀ k : Int → Option R, I_log_Serials.log_CheckLog l k = k 0 := fun k => by
  have := log_CheckLog_is hf (show l.length ≤ 100000 by omega) R k
  rw [h0] at this
  exact this
 have a2 : ∀ e0 : Int → List (Int × Int) → Option R, log_Serials_L7 I_log_Serials I_log_Serials.N 0 l (l.length : Int) 0 [] e0 = e0 (maxS 0 l) m' := fun e0 => g2 R e0
 have a3 : ∀ k : List G_Row → List Int → Option R, log_Serials_L15 I_log_Serials I_log_Serials.N (maxS 0 l) 1 m' [] [] k = k rows tw := fun k => r6 R k
 simp only [log_Serials, log_Serials_, a1, bne_self_eq_false, cond_false, a2, a3]
def renI : Nat → List G_Contact → List G_Contact
 | _, [] => []
 | i, c :: cs => reS c ((i : Int) + 1) :: renI (i + 1) cs
theorem renI_len : ∀ (l : List G_Contact) (i : Nat), (renI i l).length = l.length
 | [], i => rfl
 | c :: cs, i => by simp [renI, renI_len cs (i + 1)]
theorem renI_mem : ∀ (l : List G_Contact) (i : Nat) (y : G_Contact), y ∈ renI i l → ∃ c ∈ l, ∃ s : Int, (i : Int) < s ∧ s ≤ (i : Int) + (l.length : Int) ∧ y = reS c s
 | [], i, y, h => by cases h
 | c :: cs, i, y, h => by
  rcases List.mem_cons.1 h with rfl | h
  ·exact ⟨c, by simp, _, by omega, by simp; omega, rfl⟩
  ·obtain ⟨d, hd, s, s1, s2, e⟩ := renI_mem cs (i + 1) y h
   exact ⟨d, by simp [hd], s, by omega, by simp; omega, e⟩
theorem renI_up : ∀ (l : List G_Contact) (i : Nat), l.Pairwise (fun a b => cmpC a b < 0) → (renI i l).Pairwise (fun a b => cmpC a b < 0)
 | [], i, _ => .nil
 | c :: cs, i, h => by
  have h1 := List.pairwise_cons.1 h
  refine List.pairwise_cons.2 ⟨fun y hy => ?_, renI_up cs (i + 1) h1.2⟩
  obtain ⟨d, hd, s, _, _, rfl⟩ := renI_mem cs (i + 1) y hy
  exact h1.1 d hd
theorem renI_cnt : ∀ (l : List G_Contact) (i : Nat) (n : Int), cntI (renI i l) n = if (i : Int) < n ∧ n ≤ (i : Int) + (l.length : Int) then 1 else 0
 | [], i, n => by
  rw [if_neg (by simp)]; rfl
 | c :: cs, i, n => by
  have e : cntI (renI i (c :: cs)) n = (if (i : Int) + 1 = n then 1 else 0) + cntI (renI (i + 1) cs) n := by
   have er : renI i (c :: cs) = reS c ((i : Int) + 1) :: renI (i + 1) cs := rfl
   rw [er]
   unfold cntI
   rw [List.filter_cons]
   by_cases h : (i : Int) + 1 = n
   ·simp [reS, h]; omega
   ·simp [reS, h]
  rw [e, renI_cnt cs (i + 1) n]
  simp only [List.length_cons]
  by_cases h : (i : Int) + 1 = n
  ·rw [if_pos h, if_neg (by omega), if_pos (by omega)]
  ·rw [if_neg h]
   by_cases h2 : (((i + 1 : Nat) : Int)) < n ∧ n ≤ ((i + 1 : Nat) : Int) + (cs.length : Int)
   ·rw [if_pos h2, if_pos (by omega)]
   ·rw [if_neg h2, if_neg (by omega)]
theorem Renumber_L8 (L : Nat) (hL : L ≤ 1000) : ∀ (xs pre : List G_Contact) (n : Nat), pre.length + xs.length = L → xs.length < n → ∀ (R : Type) (e0 : List G_Contact → Option R),
  log_Renumber_L8 I_log_Renumber n 1 (L : Int) (pre.length : Int) (pre ++ xs) e0 = e0 (pre ++ renI pre.length xs)
 | _, _, 0, _, h, _, _ => by omega
 | [], pre, n + 1, hp, _, R, e0 => by rw [log_Renumber_L8, decide_eq_false (by simp at hp; omega)]; rfl
 | c :: cs, pre, n + 1, hp, hn, R, e0 => by
  simp only [List.length_cons] at hp hn
  have ih := Renumber_L8 L hL cs (pre ++ [reS c ((pre.length : Int) + 1)]) n (by simp; omega) (by omega) R e0
  have hin : ∀ {R : Type} (k : Option R), inr (pre ++ c :: cs) (pre.length : Int) k = k := fun k => inr_nat (by simp) k
  have hat : ∀ {R : Type} (k : G_Contact → Option R), at_ (pre ++ c :: cs) (pre.length : Int) k = k c := fun k => at_nat (by simp) k
  rw [log_Renumber_L8, decide_eq_true (by omega)]
  simp only [cond_true, hin, hat, w64_succ (show pre.length < 4611686018427387904 by omega), set_nat, set_mid, w64_eq (x := 1 + (pre.length : Int)) (by omega) (by omega)]
  have e1 : (⟨c.f_At, c.f_Mode, c.f_Band, c.f_Call, 1 + (pre.length : Int), c.f_Heard, c.f_Gave, c.f_Got⟩ : G_Contact) = reS c ((pre.length : Int) + 1) := by unfold reS; rw [Int.add_comm]
  rw [e1]
  have e2 : pre ++ reS c ((pre.length : Int) + 1) :: cs = pre ++ [reS c ((pre.length : Int) + 1)] ++ cs := by simp
  have e3 : ((pre.length + 1 : Nat) : Int) = ((pre ++ [reS c ((pre.length : Int) + 1)]).length : Int) := by simp
  rw [e2, e3, ih]
  simp [renI]
theorem log_Renumber_is {l : List G_Contact} (hf : ∀ c ∈ l, Fine c) (h0 : faultL l = 0) (hl : l.length ≤ 100) (R : Type) (k : List G_Contact → Int → Option R) : log_Renumber l 1 k = k (renI 0 l) 0 := by
 have a1 : ∀ k : Int → Option R, I_log_Renumber.log_CheckLog l k = k 0 := fun k => by
  have := log_CheckLog_is hf (show l.length ≤ 100000 by omega) R k
  rw [h0] at this
  exact this
 have a2 : ∀ k : Bool → Option R, I_log_Renumber.kit_Outside 1 1 99999 k = k false := fun k => by
  have := kit_Outside_is 1 1 99999 R k
  exact this
 have a3 : ∀ k : List G_Contact → Option R, I_log_Renumber.slices_Clone__Contact l k = k l := fun k => cloneC_is (by omega) R k
 have a4 : ∀ e0 : List G_Contact → Option R, log_Renumber_L8 I_log_Renumber I_log_Renumber.N 1 (l.length : Int) 0 l e0 = e0 (renI 0 l) := fun e0 => Renumber_L8 l.length (by omega) l [] NN (by simp) (by have := NN_ok; omega) R e0
 simp only [log_Renumber, log_Renumber_, a1, bne_self_eq_false, cond_false, a2, w64_eq (x := 1 + (l.length : Int)) (by omega) (by omega), w64_eq (x := 1 + (l.length : Int) - 1) (by omega) (by omega), decide_eq_false (show ¬ 1 + (l.length : Int) - 1 > 99999 by omega), a3, a4]
def presL (cn : Int → Nat) : Nat → Nat → List Int
 | _, 0 => []
 | i, j + 1 => if cn (i : Int) = 0 then presL cn (i + 1) j else (i : Int) :: presL cn (i + 1) j
theorem presL_mem (cn : Int → Nat) : ∀ (j i : Nat) (n : Int), n ∈ presL cn i j ↔ (i : Int) ≤ n ∧ n < (i : Int) + (j : Int) ∧ cn n ≠ 0
 | 0, i, n => by simp [presL]; omega
 | j + 1, i, n => by
  have ih := presL_mem cn j (i + 1) n
  unfold presL
  by_cases h : cn (i : Int) = 0
  ·rw [if_pos h, ih]
   constructor
   ·rintro ⟨a, b, c⟩; exact ⟨by omega, by omega, c⟩
   ·rintro ⟨a, b, c⟩
    have : n ≠ (i : Int) := fun e => c (by rw [e]; exact h)
    exact ⟨by omega, by omega, c⟩
  ·rw [if_neg h, List.mem_cons, ih]
   constructor
   ·rintro (rfl | ⟨a, b, c⟩)
    ·exact ⟨by omega, by omega, h⟩
    ·exact ⟨by omega, by omega, c⟩
   ·rintro ⟨a, b, c⟩
    by_cases e : n = (i : Int)
    ·exact .inl e
    ·exact .inr ⟨by omega, by omega, c⟩
theorem presL_nodup (cn : Int → Nat) : ∀ (j i : Nat), (presL cn i j).Nodup
 | 0, i => .nil
 | j + 1, i => by
  unfold presL
  by_cases h : cn (i : Int) = 0
  ·rw [if_pos h]; exact presL_nodup cn j (i + 1)
  ·rw [if_neg h]
   refine List.nodup_cons.2 ⟨fun hm => ?_, presL_nodup cn j (i + 1)⟩
   have := ((presL_mem cn j (i + 1) _).1 hm).1
   omega
theorem pres_miss (cn : Int → Nat) : ∀ (j i : Nat), ((presL cn i j).length : Int) + missF cn i j = (j : Int)
 | 0, i => rfl
 | j + 1, i => by
  have ih := pres_miss cn j (i + 1)
  unfold presL missF
  by_cases h : cn (i : Int) = 0
  ·rw [if_pos h, if_pos h]; omega
  ·rw [if_neg h, if_neg h]; simp only [List.length_cons]; omega
theorem missF_nonneg (cn : Int → Nat) : ∀ (j i : Nat), 0 ≤ missF cn i j
 | 0, i => Int.le_refl _
 | j + 1, i => by
  have := missF_nonneg cn j (i + 1)
  unfold missF
  split <;> omega
theorem mgetB (n : Int) (m : List (Int × Bool)) : mget_int_bool n m = aget keq_int n m := by rw [lm_get_int_bool]
theorem msetB (n : Int) (v : Bool) (m : List (Int × Bool)) : mset_int_bool n v m = aset keq_int n v m := by rw [lm_set_int_bool]
structure SentOk (pre : List G_Contact) (m : List (Int × Bool)) : Prop where
 one : (m.map (·.1)).Nodup
 keys : ∀ n, n ∈ m.map (·.1) ↔ 0 < n ∧ cntI pre n ≠ 0
 get : ∀ n, 0 < n → cntI pre n ≠ 0 → (mget_int_bool n m).getD false = true
theorem cntI_ne (pre : List G_Contact) (c : G_Contact) (n : Int) : cntI (pre ++ [c]) n ≠ 0 ↔ cntI pre n ≠ 0 ∨ c.f_Sent = n := by
 rw [cntI_snoc]
 by_cases h : c.f_Sent = n
 ·rw [if_pos h]; omega
 ·rw [if_neg h]; omega
theorem NA_L11 (l : List G_Contact) (hl : l.length ≤ 1000) (mi : Int) (rows : List G_Row) (tw : List Int) : ∀ (xs pre : List G_Contact) (n i : Nat) (top : Int) (m : List (Int × Bool)), l.drop i = xs → l = pre ++ xs → xs.length < n → SentOk pre m →
  ∃ m', SentOk l m' ∧ ∀ (R : Type) (e0 : Int → Int → List G_Row → List Int → List (Int × Bool) → Option R), keep_NumbersAddUp_L11 I_keep_NumbersAddUp n top mi (l.length : Int) (i : Int) l rows tw m e0 = e0 (maxS top xs) mi rows tw m'
 | _, _, 0, _, _, _, _, _, h, _ => by omega
 | [], pre, n + 1, i, top, m, h, hp, _, hm => ⟨m, by rw [hp, List.append_nil]; exact hm, fun R e0 => by rw [keep_NumbersAddUp_L11, ge_drop h]; rfl⟩
 | c :: cs, pre, n + 1, i, top, m, h, hp, hn, hm => by
  have h' := drop_cons h
  simp at hn
  by_cases hc : c.f_Sent > 0
  ·obtain ⟨m', g1, g2⟩ := NA_L11 l hl mi rows tw cs (pre ++ [c]) n (i + 1) (if c.f_Sent > top then c.f_Sent else top) (mset_int_bool c.f_Sent true m) h'.2.2.1 (by rw [hp]; simp) (by omega) (by
    rw [msetB]
    have hk : ∀ n, n ∈ (aset keq_int c.f_Sent true m).map (·.1) ↔ n ∈ m.map (·.1) ∨ n = c.f_Sent := fun n => by
     rcases aset_keys keq_int_is c.f_Sent true m with ⟨a, b⟩ | ⟨a, b⟩
     ·rw [b]
      constructor
      ·exact .inl
      ·rintro (h | rfl)
       ·exact h
       ·exact a
     ·rw [b]; simp
    refine ⟨?_, fun n => ?_, fun n hn0 hn1 => ?_⟩
    ·rcases aset_keys keq_int_is c.f_Sent true m with ⟨a, b⟩ | ⟨a, b⟩
     ·rw [b]; exact hm.one
     ·rw [b]
      exact List.nodup_append.2 ⟨hm.one, by simp, fun x hx y hy => by simp at hy; rw [hy]; exact fun e => a (e ▸ hx)⟩
    ·rw [hk, hm.keys, cntI_ne]
     constructor
     ·rintro (⟨a, b⟩ | rfl)
      ·exact ⟨a, .inl b⟩
      ·exact ⟨hc, .inr rfl⟩
     ·rintro ⟨a, b | b⟩
      ·exact .inl ⟨a, b⟩
      ·exact .inr b.symm
    ·rw [mgetB, aget_aset keq_int_is, keqI]
     by_cases hq : n = c.f_Sent
     ·rw [decide_eq_true hq]; rfl
     ·rw [decide_eq_false hq, cond_false, ← mgetB]
      rcases (cntI_ne pre c n).1 hn1 with h1 | h1
      ·exact hm.get n hn0 h1
      ·exact absurd h1.symm hq)
   refine ⟨m', g1, fun R e0 => ?_⟩
   rw [keep_NumbersAddUp_L11, lt_drop h]
   simp only [cond_true, inr_drop h, at_drop h, decide_eq_true hc, w64_succ (show i < 4611686018427387904 by omega)]
   exact g2 R e0
  ·obtain ⟨m', g1, g2⟩ := NA_L11 l hl mi rows tw cs (pre ++ [c]) n (i + 1) (if c.f_Sent > top then c.f_Sent else top) m h'.2.2.1 (by rw [hp]; simp) (by omega) (by
    refine ⟨hm.one, fun n => ?_, fun n hn0 hn1 => ?_⟩
    ·rw [hm.keys, cntI_ne]
     constructor
     ·rintro ⟨a, b⟩; exact ⟨a, .inl b⟩
     ·rintro ⟨a, b | b⟩
      ·exact ⟨a, b⟩
      ·omega
    ·rcases (cntI_ne pre c n).1 hn1 with h1 | h1
     ·exact hm.get n hn0 h1
     ·omega)
   refine ⟨m', g1, fun R e0 => ?_⟩
   rw [keep_NumbersAddUp_L11, lt_drop h]
   simp only [cond_true, inr_drop h, at_drop h, decide_eq_false hc, cond_false, w64_succ (show i < 4611686018427387904 by omega)]
   exact g2 R e0
theorem sumR_nonneg : ∀ l : List G_Row, (∀ r ∈ l, r.f_From < r.f_To) → 0 ≤ sumR l
 | [], _ => Int.le_refl _
 | r :: rs, h => by
  have := sumR_nonneg rs fun x hx => h x (by simp [hx])
  have := h r (by simp)
  unfold sumR; omega
theorem NA_L18 (rows : List G_Row) (hc : Can rows) (hl : rows.length ≤ 200000) (top : Int) (tw : List Int) (m : List (Int × Bool)) : ∀ (xs : List G_Row) (n i : Nat) (acc : Int), rows.drop i = xs → xs.length < n → 0 ≤ acc → acc + sumR xs ≤ 1000000 →
  ∀ (R : Type) (e0 : Bool → Int → Int → List Int → List (Int × Bool) → Option R) (e1 : Int → Int → List Int → List (Int × Bool) → Option R), keep_NumbersAddUp_L18 I_keep_NumbersAddUp n top acc (rows.length : Int) (i : Int) rows tw m e0 e1 = e1 top (acc + sumR xs) tw m
 | _, 0, _, _, _, h, _, _, _, _, _ => by omega
 | [], n + 1, i, acc, h, _, _, _, R, e0, e1 => by rw [keep_NumbersAddUp_L18, ge_drop h]; simp [sumR]
 | z :: xs, n + 1, i, acc, hd, hn, ha, hs, R, e0, e1 => by
  have h' := drop_cons hd
  simp at hn
  have hz := mem_drop hd
  have zlt := hc.2 z hz
  have hsx := sumR_nonneg xs fun x hx => hc.2 x (List.mem_of_mem_drop (i := i + 1) (by rw [h'.2.2.1]; exact hx))
  simp only [sumR] at hs
  have hw1 : w64 (z.f_To - z.f_From) = z.f_To - z.f_From := w64_eq (by omega) (by omega)
  have hw2 : w64 (acc + (z.f_To - z.f_From)) = acc + (z.f_To - z.f_From) := w64_eq (by omega) (by omega)
  have ih := NA_L18 rows hc hl top tw m xs n (i + 1) (acc + (z.f_To - z.f_From)) h'.2.2.1 (by omega) (by omega) (by omega) R e0 e1
  have hsum : acc + sumR (z :: xs) = acc + (z.f_To - z.f_From) + sumR xs := by
   show acc + ((z.f_To - z.f_From) + sumR xs) = _
   omega
  rw [keep_NumbersAddUp_L18, lt_drop hd, hsum]
  simp only [cond_true, inr_drop hd, at_drop hd, decide_eq_false (show ¬ z.f_From ≥ z.f_To by omega), cond_false, hw1, hw2, w64_succ (show i < 4611686018427387904 by omega), ih]
  cases i with
  | zero => rfl
  | succ j =>
   have hj : w64 (((j + 1 : Nat) : Int) - 1) = (j : Int) := by rw [w64_eq (by omega) (by omega)]; omega
   have hjl : j < rows.length := by omega
   have hq : rows[j]? = some rows[j] := List.getElem?_eq_getElem hjl
   have hlt : (rows[j]).f_To < z.f_From := by
    obtain ⟨hjl2, hz3⟩ := List.getElem?_eq_some_iff.1 h'.1
    have := (List.pairwise_iff_getElem.1 hc.1) j (j + 1) hjl hjl2 (by omega)
    rw [hz3] at this
    exact this
   rw [decide_eq_true (show ((j + 1 : Nat) : Int) > 0 by omega), hj]
   simp only [cond_true, inr_nat hjl, at_nat hq]
   rw [decide_eq_false (by omega)]
   rfl
theorem NA_L25 (tw : List Int) (hl : tw.length ≤ 200000) (top mi : Int) (m : List (Int × Bool)) (hm : ∀ t ∈ tw, (mget_int_bool t m).getD false = true) : ∀ (xs : List Int) (n i : Nat), tw.drop i = xs → xs.length < n →
  ∀ (R : Type) (e0 : Bool → Int → Int → List (Int × Bool) → Option R) (e1 : Int → Int → List (Int × Bool) → Option R), keep_NumbersAddUp_L25 I_keep_NumbersAddUp n top mi (tw.length : Int) (i : Int) tw m e0 e1 = e1 top mi m
 | _, 0, _, _, h, _, _, _ => by omega
 | [], n + 1, i, h, _, R, e0, e1 => by rw [keep_NumbersAddUp_L25, ge_drop h]; rfl
 | t :: xs, n + 1, i, h, hn, R, e0, e1 => by
  have h' := drop_cons h
  simp at hn
  have ih := NA_L25 tw hl top mi m hm xs n (i + 1) h'.2.2.1 (by omega) R e0 e1
  rw [keep_NumbersAddUp_L25, lt_drop h]
  simp only [cond_true, inr_drop h, at_drop h, hm t (mem_drop h), Bool.not_true, cond_false, w64_succ (show i < 4611686018427387904 by omega), ih]
theorem keep_NumbersAddUp_true (l : List Int) (R : Type) (k : Bool → Option R) : keep_NumbersAddUp l k = k true := by
 obtain ⟨m, s1, m1, m2, z1, e1⟩ := Stream_Range_gives (sOk0 l) 0 12 (by omega) (by omega) (by omega) (by omega) (by omega)
 obtain ⟨m, rfl⟩ := Int.eq_ofNat_of_zero_le m1
 obtain ⟨x, s2, z2, lx, hx, fx, e2⟩ := RightContacts_gives z1 (by omega) m (by omega)
 obtain ⟨hc, hup⟩ := faultL_parts fx (show x.length ≤ 1000 by omega)
 obtain ⟨T, rows, tw, t1, t2, r1, r2, r3, r4, r5, r6⟩ := log_Serials_gives hx fx (show x.length ≤ 1000 by omega)
 have ylen := renI_len x 0
 have yf : ∀ y ∈ renI 0 x, Fine y := fun y hy => by
  obtain ⟨c, hc1, s, s1, s2, rfl⟩ := renI_mem x 0 y hy
  have f := hx c hc1
  exact ⟨f.at1, f.mode, ⟨by simp only [reS]; omega, by simp only [reS]; omega⟩, f.heard, f.band, f.call, f.gave, f.got⟩
 have y0 : faultL (renI 0 x) = 0 := faultL_of (fun y hy => by
  obtain ⟨c, hc1, s, s1, s2, rfl⟩ := renI_mem x 0 y hy
  exact chk_reS (hc c hc1) (by omega) (by omega)) (renI_up x 0 hup) (by omega)
 obtain ⟨T', rows', tw', u1, u2, v1, v2, v3, v4, v5, v6⟩ := log_Serials_gives yf y0 (show (renI 0 x).length ≤ 1000 by omega)
 have hT' : (T' : Int) ≤ (x.length : Int) := by
  rw [u1]
  refine maxS_le _ _ _ (by omega) fun y hy => ?_
  obtain ⟨c, hc1, s, s1, s2, rfl⟩ := renI_mem x 0 y hy
  simp only [reS]; omega
 have w0 : rows' = [] := by
  cases hr : rows' with
  | nil => rfl
  | cons a rs0 =>
   exfalso
   have hz : missF (cntI (renI 0 x)) 1 T' = 0 := by
    have hall : ∀ (j i : Nat), (i : Int) + (j : Int) ≤ (T' : Int) + 1 → 1 ≤ i → missF (cntI (renI 0 x)) i j = 0 := by
     intro j
     induction j with
     | zero => intro i _ _; rfl
     | succ j ih =>
      intro i h1 h2
      have hc1 : cntI (renI 0 x) (i : Int) = 1 := by rw [renI_cnt, if_pos (by omega)]
      unfold missF
      rw [ih (i + 1) (by omega) (by omega), hc1]
      rfl
    exact hall T' 1 (by omega) (by omega)
   rw [hz, hr] at v5
   have p1 := v1.2 a (by rw [hr]; simp)
   have p2 := sumR_nonneg rs0 fun r h => v1.2 r (by rw [hr]; simp [h])
   have v6' : (a.f_To - a.f_From) + sumR rs0 = 0 := v5
   omega
 have w1 : tw' = [] := by
  cases hr : tw' with
  | nil => rfl
  | cons a rs0 =>
   exfalso
   have := (v4 a (by rw [hr]; simp)).2.2
   rw [renI_cnt] at this
   split at this <;> omega
 obtain ⟨mm, q1, q2⟩ := NA_L11 x (by omega) 0 rows tw x [] NN 0 0 [] rfl rfl (by have := NN_ok; omega) ⟨by simp, fun n => by simp [cntI], fun n _ h => by simp [cntI] at h⟩
 have hmiss := pres_miss (cntI x) T 1
 have hnn := missF_nonneg (cntI x) T 1
 have hle : missF (cntI x) 1 T ≤ (T : Int) := by omega
 have hklen : ((mm.length : Nat) : Int) = ((presL (cntI x) 1 T).length : Int) := by
  have hperm : (mm.map (·.1)).Perm (presL (cntI x) 1 T) := (List.perm_ext_iff_of_nodup q1.one (presL_nodup _ _ _)).2 fun n => by
   rw [q1.keys, presL_mem]
   constructor
   ·rintro ⟨a, b⟩
    refine ⟨by omega, ?_, b⟩
    have : ∃ c ∈ x, c.f_Sent = n := by
     unfold cntI at b
     cases hfl : x.filter (fun c => c.f_Sent == n) with
     | nil => rw [hfl] at b; simp at b
     | cons c cs =>
      have hcm : c ∈ x.filter (fun c => c.f_Sent == n) := by rw [hfl]; simp
      have := List.mem_filter.1 hcm
      exact ⟨c, this.1, by simpa using this.2⟩
    obtain ⟨c, hc1, hc2⟩ := this
    have := (maxS_ge x 0).2 c hc1
    omega
   ·rintro ⟨a, b, c⟩; exact ⟨by omega, c⟩
  have := hperm.length_eq
  rw [List.length_map] at this
  omega
 have hfin : w64 (missF (cntI x) 1 T + ((mm.length : Nat) : Int)) = (T : Int) := by rw [w64_eq (by omega) (by omega)]; omega
 have b1 : ∀ k : List G_Row → List Int → Int → Option R, log_Serials x k = k rows tw 0 := fun k => r6 R k
 have b2 : ∀ k : List G_Contact → Int → Option R, log_Renumber x 1 k = k (renI 0 x) 0 := fun k => log_Renumber_is hx fx (by omega) R k
 have b3 : ∀ k : List G_Row → List Int → Int → Option R, log_Serials (renI 0 x) k = k [] [] 0 := fun k => by rw [v6, w0, w1]
 have c11 : ∀ e0 : Int → Int → List G_Row → List Int → List (Int × Bool) → Option R, keep_NumbersAddUp_L11 I_keep_NumbersAddUp NN 0 0 (x.length : Int) 0 x rows tw [] e0 = e0 (T : Int) 0 rows tw mm := fun e0 => by rw [t1]; exact q2 R e0
 have c18 : ∀ (e0 : Bool → Int → Int → List Int → List (Int × Bool) → Option R) (e1 : Int → Int → List Int → List (Int × Bool) → Option R), keep_NumbersAddUp_L18 I_keep_NumbersAddUp NN (T : Int) 0 (rows.length : Int) 0 rows tw mm e0 e1 = e1 (T : Int) (missF (cntI x) 1 T) tw mm := fun e0 e1 => by
  have := NA_L18 rows r1 (by omega) (T : Int) tw mm rows NN 0 0 rfl (by have := NN_ok; omega) (by omega) (by rw [r5]; omega) R e0 e1
  rw [r5, Int.zero_add] at this
  exact this
 have c25 : ∀ (e0 : Bool → Int → Int → List (Int × Bool) → Option R) (e1 : Int → Int → List (Int × Bool) → Option R), keep_NumbersAddUp_L25 I_keep_NumbersAddUp NN (T : Int) (missF (cntI x) 1 T) (tw.length : Int) 0 tw mm e0 e1 = e1 (T : Int) (missF (cntI x) 1 T) mm := fun e0 e1 =>
  NA_L25 tw (by omega) (T : Int) (missF (cntI x) 1 T) mm (fun t ht => q1.get t (by have := (r4 t ht).1; omega) (by have := (r4 t ht).2.2; omega)) tw NN 0 rfl (by have := NN_ok; omega) R e0 e1
 simp only [I_keep_NumbersAddUp] at c11 c18 c25
 simp only [keep_NumbersAddUp, keep_NumbersAddUp_, I_keep_NumbersAddUp, e1, e2, b1, b2, b3, keep_errs_is [0, 0, 0] (by simp), show orL [0, 0, 0] = 0 from rfl, bne_self_eq_false, cond_false, show (w64 ((([] : List G_Row).length : Int) + (([] : List Int).length : Int)) != 0) = false from rfl, ylen]
 refine (c11 _).trans ((c18 _ _).trans ((c25 _ _).trans ?_))
 simp only [hfin, beq_self_eq_true, cond_true]
 exact keep_ready_is R k
end Go.Am
