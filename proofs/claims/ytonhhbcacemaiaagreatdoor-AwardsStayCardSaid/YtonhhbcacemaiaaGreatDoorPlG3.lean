/- The plain law, in Lean alone: G3, G4. No condition: lemmas for the claim. -/
import Derived.Test.YtonhhbcacemaiaaGreatDoorPlG1
import Derived.Test.YtonhhbcacemaiaaGreatDoorPlS1
import Derived.Lib.ItoaLen
set_option linter.unusedVariables false
set_option linter.unusedSectionVars false
set_option linter.unusedSimpArgs false
set_option maxRecDepth 100000
namespace Go.Am
open Go Go.Proofs
variable [Fuel]
abbrev UpK (l : List G_Card) : Prop := l.Pairwise fun x y => x.f_At ≤ y.f_At
theorem cmpK_at {x y : G_Card} (h : cmpK x y < 0) : x.f_At ≤ y.f_At := by
 unfold cmpK orL at h
 cases hc : cmpI x.f_At y.f_At != 0 with
 | true =>
  rw [hc] at h
  simp only [cond_true] at h
  unfold cmpI at h
  by_cases h1 : x.f_At < y.f_At
  ·omega
  ·rw [decide_eq_false h1] at h
   by_cases h2 : x.f_At > y.f_At
   ·rw [decide_eq_true h2] at h; exact absurd h (by decide)
   ·omega
 | false =>
  have : cmpI x.f_At y.f_At = 0 := by simpa using hc
  have := cmpI_zero.1 this
  omega
theorem faultKs_up : ∀ (l : List G_Card) (p : Option G_Card), faultKs p l = 0 → UpK l ∧ ∀ q, p = some q → ∀ c ∈ l, q.f_At ≤ c.f_At
 | [], p, _ => ⟨.nil, fun q _ c h => by cases h⟩
 | c :: cs, p, h => by
  unfold faultKs at h
  cases hc : chkK c != 0 with
  | true => rw [hc] at h; simp only [cond_true] at h; rw [h] at hc; cases hc
  | false =>
   rw [hc] at h
   simp only [cond_false] at h
   have main : faultKs (some c) cs = 0 ∧ ∀ q, p = some q → q.f_At ≤ c.f_At := by
    cases p with
    | none => exact ⟨h, fun q hq => by cases hq⟩
    | some q =>
     simp only at h
     cases hd : decide (cmpK q c ≥ 0) with
     | true => rw [hd] at h; cases h
     | false => rw [hd] at h; exact ⟨h, fun q' hq => by cases hq; exact cmpK_at (by simpa using hd)⟩
   obtain ⟨h1, h2⟩ := faultKs_up cs (some c) main.1
   refine ⟨List.pairwise_cons.2 ⟨fun y hy => h2 c rfl y hy, h1⟩, fun q hq y hy => ?_⟩
   rcases List.mem_cons.1 hy with rfl | hy
   ·exact main.2 q hq
   ·have := main.2 q hq; have := h2 c rfl y hy; omega
theorem chkK_at {c : G_Card} (h : chkK c = 0) : 0 ≤ c.f_At ∧ c.f_At ≤ 345686399999 := by
 unfold chkK at h
 cases hm : momB c.f_At with
 | false => simp [hm] at h
 | true => unfold momB at hm; exact inB_is.1 hm
theorem faultK_up {l : List G_Card} (h : faultK l = 0) : UpK l := by
 unfold faultK at h
 cases hl : decide ((l.length : Int) > 3000) with
 | true => rw [hl] at h; cases h
 | false => rw [hl] at h; exact (faultKs_up l none h).1
theorem confK_upto (T t : Int) : ∀ (l out : List G_Card), UpK l → (∀ o ∈ out, ∀ c ∈ l, o.f_At ≤ c.f_At) → (∀ c ∈ l, c.f_At ≤ T) →
  confK t (out.filter fun c => decide (c.f_At ≤ t)) l = (confK T out l).filter fun c => decide (c.f_At ≤ t)
 | [], out, _, _, _ => rfl
 | c :: cs, out, hu, ho, hT => by
  have hu' := List.pairwise_cons.1 hu
  have hT1 : decide (c.f_At ≤ T) = true := decide_eq_true (hT c (by simp))
  have ih1 := confK_upto T t cs (out ++ [c]) hu'.2 (fun o h d hd => by
   rcases List.mem_append.1 h with h | h
   ·exact ho o h d (by simp [hd])
   ·simp at h; subst h; exact hu'.1 d hd) (fun d hd => hT d (by simp [hd]))
  have ih2 := confK_upto T t cs out hu'.2 (fun o h d hd => ho o h d (by simp [hd])) (fun d hd => hT d (by simp [hd]))
  rw [List.filter_append] at ih1
  simp only [confK, hT1, Bool.true_and]
  by_cases hc : c.f_At ≤ t
  ·have hall : out.filter (fun c => decide (c.f_At ≤ t)) = out := by
    rw [List.filter_eq_self]
    intro o h
    have := ho o h c (by simp)
    simp; omega
   have hone : [c].filter (fun c => decide (c.f_At ≤ t)) = [c] := by simp [hc]
   rw [hall] at ih1 ih2 ⊢
   rw [hone] at ih1
   rw [decide_eq_true hc, Bool.true_and]
   cases (c.f_Kind == 2 && !(out.any fun o => decide (keyK o = keyK c))) with
   | true => exact ih1
   | false => exact ih2
  ·have hone : [c].filter (fun c => decide (c.f_At ≤ t)) = [] := by simp [hc]
   rw [hone, List.append_nil] at ih1
   rw [decide_eq_false hc, Bool.false_and, cond_false]
   cases (c.f_Kind == 2 && !(out.any fun o => decide (keyK o = keyK c))) with
   | true => exact ih1
   | false => exact ih2
theorem confK_sub (T : Int) : ∀ (l out : List G_Card), ∃ m, confK T out l = out ++ m ∧ m.Sublist l
 | [], out => ⟨[], by simp [confK], List.Sublist.slnil⟩
 | c :: cs, out => by
  unfold confK
  cases (decide (c.f_At ≤ T) && (c.f_Kind == 2 && !(out.any fun o => decide (keyK o = keyK c)))) with
  | true =>
   obtain ⟨m, h1, h2⟩ := confK_sub T cs (out ++ [c])
   exact ⟨c :: m, by rw [cond_true, h1]; simp, h2.cons_cons c⟩
  | false =>
   obtain ⟨m, h1, h2⟩ := confK_sub T cs out
   exact ⟨m, h1, h2.cons c⟩
theorem filter_prefix (t : Int) : ∀ (l : List G_Card), UpK l → ∃ r, l = l.filter (fun c => decide (c.f_At ≤ t)) ++ r
 | [], _ => ⟨[], rfl⟩
 | c :: cs, h => by
  have h' := List.pairwise_cons.1 h
  obtain ⟨r, hr⟩ := filter_prefix t cs h'.2
  by_cases hc : c.f_At ≤ t
  ·exact ⟨r, by rw [List.filter_cons, if_pos (by simpa using hc), List.cons_append, ← hr]⟩
  ·have : (c :: cs).filter (fun c => decide (c.f_At ≤ t)) = [] := by
    rw [List.filter_eq_nil_iff]
    intro y hy
    rcases List.mem_cons.1 hy with rfl | hy
    ·simpa using hc
    ·have := h'.1 y hy; simp; omega
   exact ⟨c :: cs, by rw [this]; rfl⟩
theorem sinceA_sign {a : G_Award} : ∀ (l : List G_Card) (s : Int) (ks : List G_club_contact), (∀ c ∈ l, 0 ≤ c.f_At) → (0 ≤ s ↔ a.f_Need ≤ (ks.length : Int)) → (0 ≤ sinceA a s ks l ↔ a.f_Need ≤ ((seenA a ks l).length : Int))
 | [], s, ks, _, h => h
 | c :: cs, s, ks, hl, h => by
  have h0 := hl c (by simp)
  have hk := addK_len ks (cntA a c)
  unfold sinceA seenA
  cases skipA a c with
  | true => exact sinceA_sign cs s ks (fun d hd => hl d (by simp [hd])) h
  | false =>
   refine sinceA_sign cs _ _ (fun d hd => hl d (by simp [hd])) ?_
   cases h1 : decide (((addK ks (cntA a c)).length : Int) ≥ a.f_Need) with
   | false =>
    simp only [Bool.false_and, cond_false]
    have h1' : ¬ ((addK ks (cntA a c)).length : Int) ≥ a.f_Need := by simpa using h1
    rw [h]; omega
   | true =>
    have h1' : ((addK ks (cntA a c)).length : Int) ≥ a.f_Need := by simpa using h1
    cases h2 : decide (s < 0) with
    | true => simp only [Bool.true_and, cond_true]; omega
    | false =>
     simp only [Bool.true_and, cond_false]
     have : ¬ s < 0 := by simpa using h2
     omega
theorem sinceA_stays {a : G_Award} : ∀ (l : List G_Card) (s : Int) (ks : List G_club_contact), 0 ≤ s → sinceA a s ks l = s
 | [], s, ks, _ => rfl
 | c :: cs, s, ks, h => by
  unfold sinceA
  have : decide (s < 0) = false := decide_eq_false (by omega)
  rw [this, Bool.and_false, cond_false]
  cases skipA a c with
  | true => exact sinceA_stays cs s ks h
  | false => exact sinceA_stays cs s _ h
theorem sinceA_split {a : G_Award} : ∀ (l : List G_Card) (s : Int) (ks : List G_club_contact), (∀ c ∈ l, 0 ≤ c.f_At) → s < 0 → (ks.length : Int) < a.f_Need →
  (sinceA a s ks l = s ∧ ((seenA a ks l).length : Int) < a.f_Need) ∨ ∃ p d q, l = p ++ d :: q ∧ sinceA a s ks l = d.f_At ∧ ((seenA a ks p).length : Int) < a.f_Need ∧ a.f_Need ≤ ((seenA a ks (p ++ [d])).length : Int)
 | [], s, ks, _, h1, h2 => .inl ⟨rfl, h2⟩
 | c :: cs, s, ks, hl, h1, h2 => by
  have h0 := hl c (by simp)
  have hl' : ∀ d ∈ cs, 0 ≤ d.f_At := fun d hd => hl d (by simp [hd])
  unfold sinceA seenA
  cases hs : skipA a c with
  | true =>
   rcases sinceA_split cs s ks hl' h1 h2 with h | ⟨p, d, q, e1, e2, e3, e4⟩
   ·exact .inl h
   ·exact .inr ⟨c :: p, d, q, by rw [e1]; rfl, e2, by simpa only [seenA, hs, cond_true] using e3, by simpa only [List.cons_append, seenA, hs, cond_true] using e4⟩
  | false =>
   simp only [cond_false]
   rw [decide_eq_true h1, Bool.and_true]
   cases h3 : decide (((addK ks (cntA a c)).length : Int) ≥ a.f_Need) with
   | true =>
    have h3' : ((addK ks (cntA a c)).length : Int) ≥ a.f_Need := by simpa using h3
    refine .inr ⟨[], c, cs, rfl, ?_, h2, ?_⟩
    ·rw [cond_true]; exact sinceA_stays cs _ _ h0
    ·simpa only [List.nil_append, seenA, hs, cond_false] using h3'
   | false =>
    have h3' : ((addK ks (cntA a c)).length : Int) < a.f_Need := by simpa using h3
    rw [cond_false]
    rcases sinceA_split cs s _ hl' h1 h3' with h | ⟨p, d, q, e1, e2, e3, e4⟩
    ·exact .inl h
    ·exact .inr ⟨c :: p, d, q, by rw [e1]; rfl, e2, by simpa only [seenA, hs, cond_false] using e3, by simpa only [List.cons_append, seenA, hs, cond_false] using e4⟩
noncomputable def whenA (a : G_Award) (l : List G_Card) : List G_Card → Int × Bool
 | [] => (0, false)
 | c :: cs => bif decide ((cntAt a l c.f_At : Int) ≥ a.f_Need) then (c.f_At, true) else whenA a l cs
theorem whenA_none {a : G_Award} {l : List G_Card} : ∀ xs : List G_Card, (∀ c ∈ xs, (cntAt a l c.f_At : Int) < a.f_Need) → whenA a l xs = (0, false)
 | [], _ => rfl
 | c :: cs, h => by
  unfold whenA
  rw [decide_eq_false (show ¬ ((cntAt a l c.f_At : Int) ≥ a.f_Need) by have := h c (by simp); omega), cond_false]
  exact whenA_none cs fun d hd => h d (by simp [hd])
theorem whenA_at {a : G_Award} {l : List G_Card} {d : G_Card} : ∀ xs : List G_Card, UpK xs → d ∈ xs → (∀ c ∈ xs, (cntAt a l c.f_At : Int) ≥ a.f_Need ↔ d.f_At ≤ c.f_At) → whenA a l xs = (d.f_At, true)
 | [], _, h, _ => by cases h
 | c :: cs, hu, hd, h => by
  have hu' := List.pairwise_cons.1 hu
  unfold whenA
  by_cases hc : d.f_At ≤ c.f_At
  ·rw [decide_eq_true ((h c (by simp)).2 hc), cond_true]
   have : c.f_At ≤ d.f_At := by
    rcases List.mem_cons.1 hd with rfl | hd
    ·omega
    ·exact hu'.1 d hd
   have e : c.f_At = d.f_At := by omega
   rw [e]
  ·rw [decide_eq_false (fun hh => hc ((h c (by simp)).1 hh)), cond_false]
   refine whenA_at cs hu'.2 ?_ (fun e he => h e (by simp [he]))
   rcases List.mem_cons.1 hd with rfl | hd
   ·omega
   ·exact hd
theorem when_is {a : G_Award} {l : List G_Card} (hu : UpK l) (h0 : ∀ c ∈ l, 0 ≤ c.f_At ∧ c.f_At ≤ 345686399999) (hn : 1 ≤ a.f_Need) :
  whenA a l l = ((if 0 > sinceA a (-1) [] (confK 345686400000 [] l) then 0 else sinceA a (-1) [] (confK 345686400000 [] l)), decide (sinceA a (-1) [] (confK 345686400000 [] l) ≥ 0)) := by
 obtain ⟨m, hm, hsub⟩ := confK_sub 345686400000 l []
 rw [List.nil_append] at hm
 have hcu : UpK (confK 345686400000 [] l) := by rw [hm]; exact hu.sublist hsub
 have hmem : ∀ c ∈ confK 345686400000 [] l, c ∈ l := fun c h => by rw [hm] at h; exact hsub.subset h
 have hc0 : ∀ c ∈ confK 345686400000 [] l, 0 ≤ c.f_At := fun c h => (h0 c (hmem c h)).1
 have hcnt : ∀ t, cntAt a l t = (seenA a [] ((confK 345686400000 [] l).filter fun c => decide (c.f_At ≤ t))).length := fun t => by
  unfold cntAt
  have := confK_upto 345686400000 t l [] hu (fun o h => by cases h) (fun c h => by have := (h0 c h).2; omega)
  rw [List.filter_nil] at this
  rw [this]
 rcases sinceA_split (a := a) (confK 345686400000 [] l) (-1) [] hc0 (by omega) (by simp; omega) with ⟨e1, e2⟩ | ⟨p, d, q, e1, e2, e3, e4⟩
 ·rw [e1]
  rw [whenA_none]
  ·rfl
  ·intro c hc
   obtain ⟨r, hr⟩ := filter_prefix c.f_At _ hcu
   have h1 := seenA_append a ((confK 345686400000 [] l).filter fun x => decide (x.f_At ≤ c.f_At)) r []
   rw [← hr] at h1
   have h2 := (seenA_len a r (seenA a [] ((confK 345686400000 [] l).filter fun x => decide (x.f_At ≤ c.f_At)))).1
   rw [← h1] at h2
   rw [hcnt]
   omega
 ·have hd : d ∈ l := hmem d (by rw [e1]; simp)
  have hd0 := (h0 d hd).1
  rw [e2, if_neg (by omega), decide_eq_true (show d.f_At ≥ 0 from hd0)]
  rw [e1] at hcu
  have hpq := List.pairwise_append.1 hcu
  refine whenA_at l hu hd (fun c hc => ?_)
  rw [hcnt, e1, List.filter_append]
  constructor
  ·intro hge
   apply Classical.byContradiction
   intro hlt
   have hnil : (d :: q).filter (fun x => decide (x.f_At ≤ c.f_At)) = [] := by
    rw [List.filter_eq_nil_iff]
    intro y hy
    have : d.f_At ≤ y.f_At := by
     rcases List.mem_cons.1 hy with rfl | hy
     ·omega
     ·exact (List.pairwise_cons.1 hpq.2.1).1 y hy
    simp; omega
   rw [hnil, List.append_nil] at hge
   obtain ⟨r, hr⟩ := filter_prefix c.f_At p hpq.1
   have h1 := seenA_append a (p.filter fun x => decide (x.f_At ≤ c.f_At)) r []
   rw [← hr] at h1
   have h2 := (seenA_len a r (seenA a [] (p.filter fun x => decide (x.f_At ≤ c.f_At)))).1
   rw [← h1] at h2
   omega
  ·intro hle
   have hall : p.filter (fun x => decide (x.f_At ≤ c.f_At)) = p := by
    rw [List.filter_eq_self]
    intro y hy
    have := hpq.2.2 y hy d (by simp)
    simp; omega
   have hcons : (d :: q).filter (fun x => decide (x.f_At ≤ c.f_At)) = d :: q.filter (fun x => decide (x.f_At ≤ c.f_At)) := by
    rw [List.filter_cons, if_pos (by simpa using hle)]
   rw [hall, hcons]
   have h1 := seenA_append a (p ++ [d]) (q.filter fun x => decide (x.f_At ≤ c.f_At)) []
   rw [List.append_assoc] at h1
   have h2 := (seenA_len a (q.filter fun x => decide (x.f_At ≤ c.f_At)) (seenA a [] (p ++ [d]))).1
   rw [← h1] at h2
   simp only [List.cons_append, List.nil_append] at h2
   omega
end Go.Am
set_option linter.unusedVariables false
set_option linter.unusedSectionVars false
set_option linter.unusedSimpArgs false
set_option maxRecDepth 100000
namespace Go.Am
open Go Go.Proofs
variable [Fuel]
theorem itoa_is {n : Int} (h0 : -9223372036854775808 ≤ n) (h1 : n ≤ 9223372036854775807) (R : Type) (k : List UInt8 → Option R) : strconv_Itoa n k = k (Lib.itoa n) := by
 show X_itoa n k = _
 unfold X_itoa in64
 rw [decide_eq_true h0, decide_eq_true h1]; rfl
noncomputable def pairA (a : G_Award) (n : Nat) : G_Pair :=
 ⟨a.f_Key, bif decide ((n : Int) ≥ a.f_Need) then ((Lib.itoa n ++ [47]) ++ Lib.itoa a.f_Need) ++ [32, 121, 101, 115] else (Lib.itoa n ++ [47]) ++ Lib.itoa a.f_Need⟩
noncomputable def progA (a : List G_Award) (cards : List G_Card) : List G_Pair := a.map fun x => pairA x (seenA x [] cards).length
abbrev RightA (a : G_Award) : Prop := (1 ≤ a.f_Count ∧ a.f_Count ≤ 4) ∧ 1 ≤ a.f_Need ∧ a.f_Need ≤ 3000
theorem oks {n : Nat} {m : Int} (hn : n ≤ 100000) (h1 : 1 ≤ m) (h2 : m ≤ 3000) : strOk (Lib.itoa (n : Int)) [47] = true ∧ strOk (Lib.itoa (n : Int) ++ [47]) (Lib.itoa m) = true ∧ strOk ((Lib.itoa (n : Int) ++ [47]) ++ Lib.itoa m) [32, 121, 101, 115] = true := by
 have a1 := Lib.itoa_length_le (n : Int) (by omega) (by omega)
 have a2 := Lib.itoa_length_le m (by omega) (by omega)
 refine ⟨strOk_is (by simp; omega), strOk_is (by simp; omega), strOk_is (by simp; omega)⟩
theorem club_Progress_loop (d : List G_Award) (hr : ∀ a ∈ d, RightA a) (hl : d.length ≤ 1000) (cards : List G_Card) (hf : ∀ c ∈ cards, FineK c) (h0 : ∀ c ∈ cards, 0 ≤ c.f_At) (hcl : cards.length ≤ 10000) : ∀ (xs : List G_Award) (n i : Nat) (out : List G_Pair), d.drop i = xs → xs.length < n → out.length ≤ i →
  ∀ (R : Type) (e0 : List G_Pair → Option R), club_Progress_L10 I_club_Progress n d (d.length : Int) (i : Int) cards out e0 = e0 (out ++ progA xs cards)
 | _, 0, _, _, _, h, _, _, _ => by omega
 | [], n + 1, i, out, h, _, _, R, e0 => by rw [club_Progress_L10, ge_drop h]; simp [progA]
 | x :: xs, n + 1, i, out, h, hn, ho, R, e0 => by
  have h' := drop_cons h
  have hx := hr x (mem_drop h)
  have ih := fun o (ho : o.length ≤ i + 1) => club_Progress_loop d hr hl cards hf h0 hcl xs n (i + 1) o h'.2.2.1 (by simp at hn; omega) ho R e0
  have hs := (seenA_len x cards []).2
  simp at hs
  have hsign := sinceA_sign (a := x) cards (-1) [] h0 ⟨fun h => by omega, fun h => by simp at h; omega⟩
  obtain ⟨k1, k2, k3⟩ := oks (n := (seenA x [] cards).length) (by omega) hx.2.1 hx.2.2
  have hge : decide (sinceA x (-1) [] cards ≥ 0) = decide (((seenA x [] cards).length : Int) ≥ x.f_Need) := by
   rw [decide_eq_decide]; exact hsign
  rw [club_Progress_L10, lt_drop h]
  have ih1 := fun v => ih (out ++ [(⟨x.f_Key, v⟩ : G_Pair)]) (by simp; omega)
  simp only [I_club_Progress] at ih1
  simp only [cond_true, get_drop h, I_club_Progress, club_reached_is hf (show cards.length ≤ 100000 by omega), itoa_is (show (-9223372036854775808 : Int) ≤ ((seenA x [] cards).length : Int) by omega) (show ((seenA x [] cards).length : Int) ≤ 9223372036854775807 by omega),
   itoa_is (show (-9223372036854775808 : Int) ≤ x.f_Need by omega) (show x.f_Need ≤ 9223372036854775807 by omega), k1, k2, k3, hge, room1 out _ 32 (show out.length ≤ 1000000 by omega) (by omega), w64_succ (show i < 4611686018427387904 by omega), ih1]
  have hp : progA (x :: xs) cards = pairA x (seenA x [] cards).length :: progA xs cards := rfl
  rw [hp]
  unfold pairA
  cases decide (((seenA x [] cards).length : Int) ≥ x.f_Need) <;> simp
noncomputable def faultPA (a : List G_Award) (l : List G_Card) (at0 : Int) : Int := orL [faultA a, faultK l, bif momB at0 then 0 else 1]
theorem orL_three (x y z : Int) : orL [x, orL [y, z]] = orL [x, y, z] := by
 simp only [orL]
 cases x != 0 <;> cases hy : y != 0 <;> cases h : z != 0 <;> simp [h, hy]
theorem club_Progress_is {a : List G_Award} {l : List G_Card} (ha : ∀ x ∈ a, FineA x) (hf : ∀ c ∈ l, FineK c) (hla : a.length ≤ 50) (hl : l.length ≤ 1000) (at0 : Int) (R : Type) (k : List G_Pair → Int → Option R) :
  club_Progress a l at0 k = bif faultPA a l at0 != 0 then k [] (faultPA a l at0) else k (progA a (confK at0 [] l)) 0 := by
 have hpa : faultPA a l at0 = orL [faultA a, faultAt l at0] := (orL_three _ _ _).symm
 rw [hpa]
 simp only [club_Progress, club_Progress_, I_club_Progress, club_CheckAwards_is ha (show a.length ≤ 100000 by omega), club_cardsFault_is hf (show l.length ≤ 100000 by omega), club_confirmed_is hf (show l.length ≤ 100000 by omega), orL]
 cases h1 : faultA a != 0 with
 | true => simp only [cond_true, h1]
 | false =>
  simp only [cond_false]
  cases h2 : faultAt l at0 != 0 with
  | true => simp only [cond_true, h2]
  | false =>
   simp only [cond_false, bne_self_eq_false]
   have z1 : faultA a = 0 := by simpa using h1
   have z2 : faultAt l at0 = 0 := by simpa using h2
   have hk := faultK_chk (faultAt_zero z2)
   have hcl := confK_len at0 l []
   simp at hcl
   have hm : ∀ c ∈ confK at0 [] l, c ∈ l := fun c h => by
    rcases confK_mem at0 l [] c h with h | h
    ·cases h
    ·exact h
   have h := club_Progress_loop a (faultA_chk z1) (by omega) (confK at0 [] l) (fun c h => hf c (hm c h)) (fun c h => (chkK_at (hk c (hm c h))).1) (by omega) a I_club_Progress.N 0 [] rfl (show a.length < NN by have := NN_ok; omega) (by simp) R (fun e22 => k e22 0)
   simp only [I_club_Progress] at h
   exact h
noncomputable def faultWA (a : G_Award) (l : List G_Card) : Int := orL [faultA [a], faultK l]
theorem club_When_is {a : G_Award} {l : List G_Card} (ha : FineA a) (hf : ∀ c ∈ l, FineK c) (hl : l.length ≤ 1000) (R : Type) (k : Int → Bool → Int → Option R) :
  club_When a l k = bif faultWA a l != 0 then k 0 false (faultWA a l) else k (whenA a l l).1 (whenA a l l).2 0 := by
 have ha' : ∀ x ∈ [a], FineA x := fun x h => by simp at h; rw [h]; exact ha
 have hcl := confK_len 345686400000 l []
 simp at hcl
 have hm : ∀ c ∈ confK 345686400000 [] l, c ∈ l := fun c h => by
  rcases confK_mem _ l [] c h with h | h
  ·cases h
  ·exact h
 simp only [club_When, club_When_, I_club_When, club_CheckAwards_is ha' (show [a].length ≤ 100000 by simp), club_CheckCards_is hf (show l.length ≤ 100000 by omega), club_confirmed_is hf (show l.length ≤ 100000 by omega), club_reached_is (fun c h => hf c (hm c h)) (show (confK 345686400000 [] l).length ≤ 100000 by omega), faultWA, orL]
 cases h1 : faultA [a] != 0 with
 | true => simp only [cond_true, h1]
 | false =>
  simp only [cond_false]
  cases h2 : faultK l != 0 with
  | true => simp only [cond_true, h2]
  | false =>
   simp only [cond_false, bne_self_eq_false]
   have z1 : faultA [a] = 0 := by simpa using h1
   have z2 : faultK l = 0 := by simpa using h2
   have hw := when_is (a := a) (faultK_up z2) (fun c h => chkK_at (faultK_chk z2 c h)) (faultA_chk z1 a (by simp)).2.1
   rw [hw]
end Go.Am
