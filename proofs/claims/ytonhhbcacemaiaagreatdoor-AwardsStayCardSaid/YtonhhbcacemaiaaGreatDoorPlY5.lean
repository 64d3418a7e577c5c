/- The plain law, in Lean alone: Y5. No condition: lemmas for the claim. -/
import Derived.Test.YtonhhbcacemaiaaGreatDoorPlY0
import Derived.Test.YtonhhbcacemaiaaGreatDoorPlG3
set_option linter.unusedVariables false
set_option linter.unusedSectionVars false
set_option linter.unusedSimpArgs false
set_option maxRecDepth 100000
namespace Go.Am
open Go Go.Proofs
variable [Fuel]
theorem cnt_when {a : G_Award} {l : List G_Card} (hu : UpK l) (h0 : ∀ c ∈ l, 0 ≤ c.f_At ∧ c.f_At ≤ 345686399999) (hn : 1 ≤ a.f_Need) (t : Int) : ((cntAt a l t : Int) ≥ a.f_Need) ↔ ((whenA a l l).2 = true ∧ t ≥ (whenA a l l).1) := by
 obtain ⟨m, hm, hsub⟩ := confK_sub 345686400000 l []
 rw [List.nil_append] at hm
 have hcu : UpK (confK 345686400000 [] l) := by rw [hm]; exact hu.sublist hsub
 have hmem : ∀ c ∈ confK 345686400000 [] l, c ∈ l := fun c h => by rw [hm] at h; exact hsub.subset h
 have hc0 : ∀ c ∈ confK 345686400000 [] l, 0 ≤ c.f_At := fun c h => (h0 c (hmem c h)).1
 have hcnt : ∀ t, cntAt a l t = (seenA a [] ((confK 345686400000 [] l).filter fun c => decide (c.f_At ≤ t))).length := fun t => by
  unfold cntAt
  have := confK_upto 345686400000 t l [] hu (fun o h => by cases h) (fun c h => by have := (h0 c h).2; omega)
  rw [List.filter_nil] at this
  rw [this]
 rw [when_is hu h0 hn]
 rcases sinceA_split (a := a) (confK 345686400000 [] l) (-1) [] hc0 (by omega) (by simp; omega) with ⟨e1, e2⟩ | ⟨p, d, q, e1, e2, e3, e4⟩
 ·rw [e1]
  have hlt : ¬ ((cntAt a l t : Int) ≥ a.f_Need) := by
   obtain ⟨r, hr⟩ := filter_prefix t _ hcu
   have h1 := seenA_append a ((confK 345686400000 [] l).filter fun x => decide (x.f_At ≤ t)) r []
   rw [← hr] at h1
   have h2 := (seenA_len a r (seenA a [] ((confK 345686400000 [] l).filter fun x => decide (x.f_At ≤ t)))).1
   rw [← h1] at h2
   rw [hcnt]
   omega
  constructor
  ·intro h; exact absurd h hlt
  ·intro h
   have := h.1
   simp at this
 ·have hd : d ∈ l := hmem d (by rw [e1]; simp)
  have hd0 := (h0 d hd).1
  rw [e2, if_neg (by omega), decide_eq_true (show d.f_At ≥ 0 from hd0)]
  rw [e1] at hcu
  have hpq := List.pairwise_append.1 hcu
  rw [hcnt, e1, List.filter_append]
  constructor
  ·intro hge
   refine ⟨rfl, Classical.byContradiction fun hlt => ?_⟩
   have hlt : ¬ t ≥ d.f_At := hlt
   have hnil : (d :: q).filter (fun x => decide (x.f_At ≤ t)) = [] := by
    rw [List.filter_eq_nil_iff]
    intro y hy
    have : d.f_At ≤ y.f_At := by
     rcases List.mem_cons.1 hy with rfl | hy
     ·omega
     ·exact (List.pairwise_cons.1 hpq.2.1).1 y hy
    simp; omega
   rw [hnil, List.append_nil] at hge
   obtain ⟨r, hr⟩ := filter_prefix t p hpq.1
   have h1 := seenA_append a (p.filter fun x => decide (x.f_At ≤ t)) r []
   rw [← hr] at h1
   have h2 := (seenA_len a r (seenA a [] (p.filter fun x => decide (x.f_At ≤ t)))).1
   rw [← h1] at h2
   omega
  ·intro hle
   have hle : d.f_At ≤ t := hle.2
   have hall : p.filter (fun x => decide (x.f_At ≤ t)) = p := by
    rw [List.filter_eq_self]
    intro y hy
    have := hpq.2.2 y hy d (by simp)
    simp; omega
   have hcons : (d :: q).filter (fun x => decide (x.f_At ≤ t)) = d :: q.filter (fun x => decide (x.f_At ≤ t)) := by
    rw [List.filter_cons, if_pos (by simpa using hle)]
   rw [hall, hcons]
   have h1 := seenA_append a (p ++ [d]) (q.filter fun x => decide (x.f_At ≤ t)) []
   rw [List.append_assoc] at h1
   have h2 := (seenA_len a (q.filter fun x => decide (x.f_At ≤ t)) (seenA a [] (p ++ [d]))).1
   rw [← h1] at h2
   simp only [List.cons_append, List.nil_append] at h2
   omega
def sufB (s p : List UInt8) : Bool := decide (s.length ≥ p.length) && s.drop (s.length - p.length) == p
theorem strings_HasSuffix_is {s p : List UInt8} (hs : s.length ≤ 100000) (R : Type) (k : Bool → Option R) : strings_HasSuffix s p k = k (sufB s p) := by
 show stringslite_HasSuffix s p k = _
 simp only [stringslite_HasSuffix, stringslite_HasSuffix_, sufB]
 by_cases h : s.length ≥ p.length
 ·rw [decide_eq_true (show (s.length : Int) ≥ (p.length : Int) by omega), w64_eq (x := (s.length : Int) - (p.length : Int)) (by omega) (by omega), decide_eq_true (show (0 : Int) ≤ (s.length : Int) - (p.length : Int) by omega), decide_eq_true (show (s.length : Int) - (p.length : Int) ≤ (s.length : Int) by omega), decide_eq_true h, show ((s.length : Int) - (p.length : Int)).toNat = s.length - p.length by omega]
  rfl
 ·rw [decide_eq_false (show ¬ (s.length : Int) ≥ (p.length : Int) by omega), decide_eq_false h]
  rfl
theorem suf_yes (y p : List UInt8) : sufB (y ++ p) p = true := by
 unfold sufB
 rw [decide_eq_true (by simp), show (y ++ p).length - p.length = y.length by simp, List.drop_left]
 simp
theorem suf_no {y : List UInt8} {x : UInt8} (hx : x ≠ 115) : sufB (y ++ [x]) [32, 121, 101, 115] = false := by
 cases h : sufB (y ++ [x]) [32, 121, 101, 115] with
 | false => rfl
 | true =>
  unfold sufB at h
  rw [Bool.and_eq_true, beq_iff_eq] at h
  have e := List.take_append_drop ((y ++ [x]).length - ([32, 121, 101, 115] : List UInt8).length) (y ++ [x])
  rw [h.2] at e
  have e2 := congrArg List.getLast? e
  simp at e2
  exact absurd e2.symm hx
theorem itoa_small {n : Int} (h1 : 1 ≤ n) (h2 : n ≤ 4) : ∃ x, x ≠ 115 ∧ Lib.itoa n = [x] := by
 have : n = 1 ∨ n = 2 ∨ n = 3 ∨ n = 4 := by omega
 rcases this with rfl | rfl | rfl | rfl
 ·exact ⟨49, by decide, by unfold Lib.itoa; rw [if_neg (by decide)]; unfold Lib.decDigits; rfl⟩
 ·exact ⟨50, by decide, by unfold Lib.itoa; rw [if_neg (by decide)]; unfold Lib.decDigits; rfl⟩
 ·exact ⟨51, by decide, by unfold Lib.itoa; rw [if_neg (by decide)]; unfold Lib.decDigits; rfl⟩
 ·exact ⟨52, by decide, by unfold Lib.itoa; rw [if_neg (by decide)]; unfold Lib.decDigits; rfl⟩
theorem pair_suf {a : G_Award} (h1 : 1 ≤ a.f_Need) (h2 : a.f_Need ≤ 4) {n : Nat} (hn : n ≤ 100000) : sufB (pairA a n).f_Value [32, 121, 101, 115] = decide ((n : Int) ≥ a.f_Need) ∧ (pairA a n).f_Value.length ≤ 1000 := by
 have a1 := Lib.itoa_length_le (n : Int) (by omega) (by omega)
 have a2 := Lib.itoa_length_le a.f_Need (by omega) (by omega)
 unfold pairA
 by_cases h : (n : Int) ≥ a.f_Need
 ·rw [decide_eq_true h]
  simp only [cond_true]
  exact ⟨suf_yes _ _, by simp; omega⟩
 ·rw [decide_eq_false h]
  simp only [cond_false]
  obtain ⟨x, hx, e⟩ := itoa_small h1 h2
  rw [e]
  exact ⟨suf_no hx, by simp; omega⟩
def awA (c n : Int) : G_Award := ⟨[97], [], c, n⟩
theorem awA_fine {c n : Int} (c1 : 1 ≤ c) (c2 : c ≤ 4) (n1 : 1 ≤ n) (n2 : n ≤ 4) : FineA (awA c n) := ⟨by simp [awA, keysA], by simp [awA, keysL], ⟨by simp only [awA]; omega, by simp only [awA]; omega⟩, ⟨by simp only [awA]; omega, by simp only [awA]; omega⟩⟩
theorem keyB_a : keyB [97] = true := by
 obtain ⟨m, h, rfl⟩ := fuel_is ‹Fuel›
 kernel_rfl
theorem awA_ok {c n : Int} (c1 : 1 ≤ c) (c2 : c ≤ 4) (n1 : 1 ≤ n) (n2 : n ≤ 4) : faultA [awA c n] = 0 := by
 have h : chkA none (awA c n) = 0 := by
  unfold chkA
  rw [show (awA c n).f_Key = [97] from rfl, keyB_a, show (awA c n).f_Band = [] from rfl, show nameB [] = true from rfl, show (awA c n).f_Count = c from rfl, inB_is.2 ⟨c1, c2⟩, show (awA c n).f_Need = n from rfl, inB_is.2 ⟨n1, by omega⟩]
  rfl
 unfold faultA faultAs
 rw [h]
 rfl
theorem AS_L8 {x : List G_Card} (hx : ∀ c ∈ x, FineK c) (hxl : x.length ≤ 100) (fx : faultK x = 0) {cc nn : Int} (c1 : 1 ≤ cc) (c2 : cc ≤ 4) (n1 : 1 ≤ nn) (n2 : nn ≤ 4) (ts : List Int) (hts : ∀ t ∈ ts, 0 ≤ t ∧ t ≤ 1000) (htl : ts.length ≤ 100) : ∀ (xs : List Int) (n i : Nat), ts.drop i = xs → xs.length < n →
  ∀ (R : Type) (e0 : Bool → Option R) (e1 : Option R), keep_AwardsStay_L8 I_keep_AwardsStay n (whenA (awA cc nn) x x).1 (whenA (awA cc nn) x x).2 (ts.length : Int) (i : Int) x (awA cc nn) ts e0 e1 = e1
 | _, 0, _, _, h, _, _, _ => by omega
 | [], n + 1, i, h, _, R, e0, e1 => by rw [keep_AwardsStay_L8, ge_drop h]; rfl
 | t :: xs, n + 1, i, h, hn, R, e0, e1 => by
  have h' := drop_cons h
  simp at hn
  have ih := AS_L8 hx hxl fx c1 c2 n1 n2 ts hts htl xs n (i + 1) h'.2.2.1 (by omega) R e0 e1
  have ht := hts t (mem_drop h)
  have hfa : ∀ y ∈ [awA cc nn], FineA y := fun y hy => by simp at hy; rw [hy]; exact awA_fine c1 c2 n1 n2
  have hf : faultPA [awA cc nn] x t = 0 := by
   unfold faultPA
   rw [awA_ok c1 c2 n1 n2, fx, show momB t = true from inB_is.2 ⟨ht.1, by omega⟩]
   rfl
  have hp : ∀ k : List G_Pair → Int → Option R, I_keep_AwardsStay.club_Progress [awA cc nn] x t k = k [pairA (awA cc nn) (cntAt (awA cc nn) x t)] 0 := fun k => by
   have := club_Progress_is hfa hx (by simp) (show x.length ≤ 1000 by omega) t R k
   rw [hf] at this
   exact this
  have hc := confK_len t x []
  have hs := (seenA_len (awA cc nn) (confK t [] x) []).2
  simp only [List.length_nil, Nat.zero_add] at hc hs
  have hcn : cntAt (awA cc nn) x t ≤ 100000 := by unfold cntAt; omega
  obtain ⟨g1, g2⟩ := pair_suf (a := awA cc nn) (show 1 ≤ nn from n1) (show nn ≤ 4 from n2) hcn
  have hsuf : ∀ k : Bool → Option R, I_keep_AwardsStay.strings_HasSuffix (pairA (awA cc nn) (cntAt (awA cc nn) x t)).f_Value [32, 121, 101, 115] k = k (decide ((cntAt (awA cc nn) x t : Int) ≥ nn)) := fun k => by
   have := strings_HasSuffix_is (p := [32, 121, 101, 115]) (show (pairA (awA cc nn) (cntAt (awA cc nn) x t)).f_Value.length ≤ 100000 by omega) R k
   rw [g1] at this
   exact this
  have key := cnt_when (a := awA cc nn) (faultK_up fx) (fun c hc => chkK_at (faultK_chk fx c hc)) (show 1 ≤ nn from n1) t
  have key : ((cntAt (awA cc nn) x t : Int) ≥ nn) ↔ ((whenA (awA cc nn) x x).2 = true ∧ t ≥ (whenA (awA cc nn) x x).1) := key
  have i0 : ∀ (p : G_Pair) {R : Type} (k : Option R), inr [p] 0 k = k := fun p R k => inr_nat (i := 0) (by simp) k
  have a0 : ∀ (p : G_Pair) {R : Type} (k : G_Pair → Option R), at_ [p] 0 k = k p := fun p R k => at_nat (i := 0) rfl k
  rw [keep_AwardsStay_L8, lt_drop h]
  simp only [cond_true, inr_drop h, at_drop h, hp, bne_self_eq_false, cond_false, show (([pairA (awA cc nn) (cntAt (awA cc nn) x t)].length : Int) != 1) = false from rfl, i0, a0, hsuf, w64_succ (show i < 4611686018427387904 by omega), ih]
  cases hw : (whenA (awA cc nn) x x).2 with
  | true =>
   rw [hw] at key
   have : decide ((cntAt (awA cc nn) x t : Int) ≥ nn) = decide (t ≥ (whenA (awA cc nn) x x).1) := by
    rw [Bool.eq_iff_iff, decide_eq_true_eq, decide_eq_true_eq, key]
    simp
   rw [this]
   simp
  | false =>
   rw [hw] at key
   have : decide ((cntAt (awA cc nn) x t : Int) ≥ nn) = false := decide_eq_false (fun hh => by have := (key.1 hh).1; cases this)
   rw [this]
   simp
theorem keep_AwardsStay_true (l : List Int) (R : Type) (k : Bool → Option R) : keep_AwardsStay l k = k true := by
 obtain ⟨m, s1, m1, m2, z1, e1⟩ := Stream_Range_gives (sOk0 l) 0 14 (by omega) (by omega) (by omega) (by omega) (by omega)
 obtain ⟨m, rfl⟩ := Int.eq_ofNat_of_zero_le m1
 obtain ⟨x, s2, z2, lx, hx, fx, e2⟩ := Stream_RightCards_gives z1 (by omega) m (by omega)
 obtain ⟨cc, s3, c1, c2, z3, e3⟩ := Stream_Range_gives z2 1 4 (by omega) (by omega) (by omega) (by omega) (by omega)
 obtain ⟨nn, s4, n1, n2, z4, e4⟩ := Stream_Range_gives z3 1 4 (by omega) (by omega) (by omega) (by omega) (by omega)
 have hf : faultWA (awA cc nn) x = 0 := by
  unfold faultWA
  rw [awA_ok c1 c2 n1 n2, fx]
  rfl
 have hwhen : ∀ k : Int → Bool → Int → Option R, club_When (awA cc nn) x k = k (whenA (awA cc nn) x x).1 (whenA (awA cc nn) x x).2 0 := fun k => by
  have := club_When_is (awA_fine c1 c2 n1 n2) hx (show x.length ≤ 1000 by omega) R k
  rw [hf] at this
  exact this
 have hloop : ∀ (e0 : Bool → Option R) (e1 : Option R), keep_AwardsStay_L8 I_keep_AwardsStay NN (whenA (awA cc nn) x x).1 (whenA (awA cc nn) x x).2 (([0, 5, 20, 50, 200] : List Int).length : Int) 0 x (awA cc nn) [0, 5, 20, 50, 200] e0 e1 = e1 := fun e0 e1 =>
  AS_L8 hx (show x.length ≤ 100 by omega) fx c1 c2 n1 n2 [0, 5, 20, 50, 200] (fun t ht => by simp at ht; omega) (by simp) [0, 5, 20, 50, 200] NN 0 rfl (by have := NN_ok; simp; omega) R e0 e1
 have hz : (⟨[97], [], cc, nn⟩ : G_Award) = awA cc nn := rfl
 simp only [I_keep_AwardsStay] at hloop
 simp only [keep_AwardsStay, keep_AwardsStay_, I_keep_AwardsStay, e1, e2, e3, e4, hz, hwhen, bne_self_eq_false, cond_false]
 exact (hloop _ _).trans (keep_ready_is R k)
end Go.Am
