/- The plain law, in Lean alone: LM. No condition: lemmas for the claim. -/
import Derived.Test.YthfphbbhjodbcaaGreatDoorPlC2
set_option linter.unusedVariables false
set_option linter.unusedSectionVars false
set_option linter.unusedSimpArgs false
set_option maxRecDepth 100000
namespace Go.Am
open Go Go.Proofs
variable [Fuel]
theorem law_errs_loop (l : List Int) (hl : l.length < 1000000) : ∀ (xs : List Int) (n i : Nat), l.drop i = xs → xs.length < n → ∀ (R : Type) (k : Int → Option R),
    law_errs_L2 NN n l (l.length : Int) (i : Int) k (k 0) = k (orL xs)
  | _, 0, _, _, h, _, _ => by omega
  | [], n + 1, i, h, _, _, _ => by rw [law_errs_L2, ge_drop h]; rfl
  | x :: xs, n + 1, i, h, hn, R, k => by
    have h' := drop_cons h
    have ih := law_errs_loop l hl xs n (i + 1) h'.2.2.1 (by simp at hn; omega) R k
    rw [law_errs_L2, lt_drop h, w64_succ (by omega), ih]
    simp only [cond_true, get_drop h, orL]
    cases x != 0 <;> rfl
theorem law_errs_is (l : List Int) (hl : l.length < 1000000) (R : Type) (k : Int → Option R) : law_errs l k = k (orL l) :=
  law_errs_loop l hl l NN 0 rfl (by have := NN_ok; omega) R k
theorem law_logged_is (R : Type) (k : Bool → Option R) : law_logged k = k true := by
  obtain ⟨m, h, rfl⟩ := fuel_is ‹Fuel›
  kernel_rfl
theorem LM_J15 (e f : Int) (a : List G_Contact) (c : G_Contact) (m x : List G_Contact) (ha : ∀ c ∈ a, Fine c) (hc : Fine c) (h1 : a.length ≤ 1000) (h2 : m.length ≤ 1000) (h3 : x.length ≤ 1000) (R : Type) (k : Bool → Option R) :
    law_LogsMerge_J15 I_law_LogsMerge e f f e a c m x m x k = k true := by
  simp only [law_LogsMerge_J15, I_law_LogsMerge, log_CheckContact_is hc, Q_ContactFault_is hc, log_CheckLog_is ha (show a.length ≤ 100000 by omega), Q_LogFault_is ha (show a.length ≤ 100000 by omega), beq_self_eq_true, cond_true, equalC_is (show m.length ≤ 1000000 by omega), equalC_is (show x.length ≤ 1000000 by omega), law_logged_is]
theorem LM_J15_1 (e f : Int) (a : List G_Contact) (c : G_Contact) (m x : List G_Contact) (ha : ∀ c ∈ a, Fine c) (hc : Fine c) (h1 : a.length ≤ 1000) (h2 : m.length ≤ 1000) (h3 : x.length ≤ 1000) (R : Type) (k : Bool → Option R) :
    law_LogsMerge_J15_1 I_law_LogsMerge e f f e a c m x m x k = k true := LM_J15 e f a c m x ha hc h1 h2 h3 R k
theorem LM_end (a b : List G_Contact) (c : G_Contact) (ha : ∀ c ∈ a, Fine c) (hb : ∀ c ∈ b, Fine c) (hc : Fine c) (hl : a.length + b.length ≤ 20) (R : Type) (k : Bool → Option R)
    (J : Int → Int → Int → Int → List G_Contact → G_Contact → List G_Contact → List G_Contact → List G_Contact → List G_Contact → (Bool → Option R) → Option R)
    (hJ : ∀ e f m x, m.length ≤ 1000 → x.length ≤ 1000 → J e f f e a c m x m x k = k true) :
    (log_Merge a b fun r97 r98 => log_Lacks a b fun r101 r102 => Q_LogFault a fun r106 => Q_LogFault b fun r107 => law_errs [r106, r107] fun r108 =>
      bif r108 == 0 then (Q_LogsOf a b fun r138 r139 => Q_LackingOf a b fun r140 => J r98 r102 r108 r139 a c r97 r101 r138 r140 k) else J r98 r102 r108 r108 a c r97 r101 [] [] k) = k true := by
  have hm := mergeC_len a b
  have hlk : (lackC a b).length ≤ b.length := List.length_filter_le _ _
  simp only [log_Merge_is ha hb hl, log_Lacks_is ha hb (show a.length ≤ 100000 by omega) (show b.length ≤ 100000 by omega), Q_LogFault_is ha (show a.length ≤ 100000 by omega), Q_LogFault_is hb (show b.length ≤ 100000 by omega),
    law_errs_is [faultL a, faultL b] (by simp), Q_LogsOf_is ha hb hl, Q_LackingOf_is (show a.length ≤ 100000 by omega) (show b.length ≤ 100000 by omega)]
  cases h : orL [faultL a, faultL b] != 0 with
  | true =>
    have h2 : (orL [faultL a, faultL b] == 0) = false := by simpa using h
    simp only [cond_true, h2, cond_false]
    exact hJ _ _ [] [] (by simp) (by simp)
  | false =>
    have h2 : orL [faultL a, faultL b] = 0 := by simpa using h
    simp only [cond_false, h2, beq_self_eq_true, cond_true]
    refine hJ _ _ _ _ ?_ (by omega)
    unfold mergedC
    cases adjL (mergeC a b) <;> cases decide (((mergeC a b).length : Int) > 2000) <;> simp only [cond_true, cond_false, List.length_nil] <;> omega
theorem law_LogsMerge_true (l : List Int) (R : Type) (k : Bool → Option R) : law_LogsMerge l k = k true := by
  obtain ⟨t, s1, t1, t2, z1, e1⟩ := Stream_Range_gives (sOk0 l) 0 100 (by omega) (by omega) (by omega) (by omega) (by omega)
  obtain ⟨c, s2, hc, _, z2, e2⟩ := Stream_SomeContact_gives z1 t (by omega) (by omega) (by omega)
  obtain ⟨n, s3, n1, n2, z3, e3⟩ := Stream_Range_gives z2 0 10 (by omega) (by omega) (by omega) (by omega) (by omega)
  obtain ⟨n, rfl⟩ : ∃ m : Nat, n = (m : Int) := ⟨n.toNat, by omega⟩
  obtain ⟨a, s4, z4, la, ha, e4⟩ := Stream_Contacts_gives z3 (by omega) n (by omega)
  obtain ⟨q, s5, q1, q2, z5, e5⟩ := Stream_Range_gives z4 0 6 (by omega) (by omega) (by omega) (by omega) (by omega)
  obtain ⟨q, rfl⟩ : ∃ m : Nat, q = (m : Int) := ⟨q.toNat, by omega⟩
  obtain ⟨b, s6, z6, lb, hb, e6⟩ := Stream_Contacts_gives z5 (by omega) q (by omega)
  have ha' : ∀ c ∈ a, Fine c := fun c h => (ha c h).1
  have hb' : ∀ c ∈ b, Fine c := fun c h => (hb c h).1
  have j1 : ∀ e f m x, m.length ≤ 1000 → x.length ≤ 1000 → law_LogsMerge_J15 I_law_LogsMerge e f f e a c m x m x k = k true := fun e f m x h2 h3 => LM_J15 e f a c m x ha' hc (by omega) h2 h3 R k
  have j2 : ∀ e f m x, m.length ≤ 1000 → x.length ≤ 1000 → law_LogsMerge_J15_1 I_law_LogsMerge e f f e a c m x m x k = k true := fun e f m x h2 h3 => LM_J15_1 e f a c m x ha' hc (by omega) h2 h3 R k
  have f1 := fun (b : List G_Contact) (hb : ∀ c ∈ b, Fine c) (hl : a.length + b.length ≤ 20) => LM_end a b c ha' hb hc hl R k (fun a b c d l x m n o p k => law_LogsMerge_J15 I_law_LogsMerge a b c d l x m n o p k) j1
  have f2 := fun (b : List G_Contact) (hb : ∀ c ∈ b, Fine c) (hl : a.length + b.length ≤ 20) => LM_end a b c ha' hb hc hl R k (fun a b c d l x m n o p k => law_LogsMerge_J15_1 I_law_LogsMerge a b c d l x m n o p k) j2
  have j4 : ∀ (f : Bool) (s : G_Stream), SOk 1000 s → (f = true → 0 < a.length) →
      (∃ b', (∀ c ∈ b', Fine c) ∧ b'.length ≤ 10 ∧ ∀ (R : Type) (e0 : List G_Contact → List G_Contact → G_Contact → List G_Contact → Option R) (e1 : List G_Contact → List G_Contact → G_Contact → Option R), law_LogsMerge_J4 I_law_LogsMerge f s a b c e0 e1 = e0 a b c b') ∨
      (∀ (R : Type) (e0 : List G_Contact → List G_Contact → G_Contact → List G_Contact → Option R) (e1 : List G_Contact → List G_Contact → G_Contact → Option R), law_LogsMerge_J4 I_law_LogsMerge f s a b c e0 e1 = e1 a b c) := by
    intro f s hs hf
    cases f with
    | false => exact .inr fun R e0 e1 => by simp only [law_LogsMerge_J4, cond_false]
    | true =>
      have hpos := hf rfl
      obtain ⟨r, s1, r1, r2, w1, f1⟩ := Stream_Next_gives hs (a.length : Int) (by omega) (by omega)
      obtain ⟨g, s2, w2, f2⟩ := Stream_Flip_gives w1 4 (by omega) (by omega)
      have r3 := r2 (by omega)
      have hd : (decide (0 ≤ r) && decide (r ≤ (a.length : Int))) = true := by simp; omega
      have hdrop : ∀ c ∈ a.drop r.toNat, Fine c ∧ c.f_Heard ≤ 1099511627776 := fun c h => ha c (List.mem_of_mem_drop h)
      cases g with
      | false =>
        refine .inl ⟨a.drop r.toNat, fun c h => (hdrop c h).1, by simp; omega, fun R e0 e1 => ?_⟩
        simp only [law_LogsMerge_J4, I_law_LogsMerge, cond_true, f1, hd, cloneC_is (show (a.drop r.toNat).length ≤ 1000000 by simp; omega), f2, cond_false]
      | true =>
        obtain ⟨y, ys, hy⟩ : ∃ y ys, a.drop r.toNat = y :: ys := by
          cases hq : a.drop r.toNat with
          | nil => have := congrArg List.length hq; simp at this; omega
          | cons y ys => exact ⟨y, ys, rfl⟩
        rw [hy] at hdrop
        have fy := hdrop y (by simp)
        have hw : w64 (y.f_Heard + 1) = y.f_Heard + 1 := w64_eq (by have := fy.1.heard; omega) (by omega)
        refine .inl ⟨⟨y.f_At, y.f_Mode, y.f_Band, y.f_Call, y.f_Sent, y.f_Heard + 1, y.f_Gave, y.f_Got⟩ :: ys, fun c h => ?_, ?_, fun R e0 e1 => ?_⟩
        · rcases List.mem_cons.1 h with rfl | h
          · exact ⟨fy.1.at1, fy.1.mode, fy.1.sent, ⟨by have := fy.1.heard; simp only; omega, by simp only; omega⟩, fy.1.band, fy.1.call, fy.1.gave, fy.1.got⟩
          · exact (hdrop c (by simp [h])).1
        · have := congrArg List.length hy; simp at this ⊢; omega
        · have i0 : ∀ {R : Type} (k : Option R), inr (y :: ys) 0 k = k := fun k => inr_nat (i := 0) (by simp) k
          have a0 : ∀ {R : Type} (k : G_Contact → Option R), at_ (y :: ys) 0 k = k y := fun k => at_nat (i := 0) rfl k
          have sl := cloneC_is (show (a.drop r.toNat).length ≤ 1000000 by simp; omega)
          rw [hy] at sl
          simp only [law_LogsMerge_J4, I_law_LogsMerge, cond_true, f1, hd, hy, sl, f2, i0, a0, hw]
          rfl
  have end1 := fun (f : Bool) (s : G_Stream) (hs : SOk 1000 s) (hf : f = true → 0 < a.length) => j4 f s hs hf
  simp only [I_law_LogsMerge] at f1 f2 end1
  simp only [law_LogsMerge, law_LogsMerge_, I_law_LogsMerge, e1, e2, e3, e4, e5, e6]
  cases hd : decide ((a.length : Int) > 0) with
  | true =>
    obtain ⟨f, s7, z7, e7⟩ := Stream_Flip_gives z6 2 (by omega) (by omega)
    simp only [cond_true, e7]
    rcases end1 f s7 (z7.mono (by omega)) (fun _ => by simpa using hd) with ⟨b', g1, g2, g3⟩ | g3
    · simp only [g3]; exact f1 b' g1 (by omega)
    · simp only [g3]; exact f2 b hb' (by omega)
  | false =>
    simp only [cond_false]
    rcases end1 false s6 (z6.mono (by omega)) (fun h => by cases h) with ⟨b', g1, g2, g3⟩ | g3
    · simp only [g3]; exact f1 b' g1 (by omega)
    · simp only [g3]; exact f2 b hb' (by omega)
end Go.Am
