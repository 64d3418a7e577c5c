/- The plain law, in Lean alone: T4, T5. No condition: lemmas for the claim. -/
import Derived.Test.YtoajjnhmofegcaaGreatDoorPlT2
set_option linter.unusedVariables false
set_option linter.unusedSectionVars false
set_option linter.unusedSimpArgs false
set_option maxRecDepth 100000
namespace Go.Am
open Go Go.Proofs
variable [Fuel]
theorem dig_val (b : UInt8) : digS.contains b = (Lib.digitVal b).isSome := by
 have h : ∀ x : Fin 256, digS.contains (UInt8.ofNat x) = (Lib.digitVal (UInt8.ofNat x)).isSome := by decide +kernel
 have := h ⟨b.toNat, b.toNat_lt⟩
 simpa using this
theorem dec_all : ∀ (t : List UInt8) (a : Nat), (t.all fun b => digS.contains b) = true → ∃ m, Lib.decFrom a t = some m
 | [], a, _ => ⟨a, rfl⟩
 | b :: t, a, h => by
  rw [List.all_cons, Bool.and_eq_true, dig_val] at h
  obtain ⟨d, hd⟩ := Option.isSome_iff_exists.1 h.1
  obtain ⟨m, hm⟩ := dec_all t (a * 10 + d) h.2
  exact ⟨m, by rw [Lib.decFrom, hd]; exact hm⟩
theorem dec_snoc : ∀ (t : List UInt8) (a : Nat) (b : UInt8) (m : Nat), Lib.decFrom a (t ++ [b]) = some m → ∃ n d, Lib.decFrom a t = some n ∧ Lib.digitVal b = some d ∧ m = n * 10 + d
 | [], a, b, m, h => by
  rw [List.nil_append, Lib.decFrom] at h
  cases hd : Lib.digitVal b with
  | none => rw [hd] at h; cases h
  | some d =>
   rw [hd] at h
   exact ⟨a, d, rfl, rfl, by have := Option.some.inj h; omega⟩
 | c :: t, a, b, m, h => by
  rw [List.cons_append, Lib.decFrom] at h
  cases hd : Lib.digitVal c with
  | none => rw [hd] at h; cases h
  | some d =>
   rw [hd] at h
   obtain ⟨n, e, h1, h2, h3⟩ := dec_snoc t (a * 10 + d) b m h
   exact ⟨n, e, by rw [Lib.decFrom, hd]; exact h1, h2, h3⟩
theorem head_app {u v : List UInt8} (h : u ≠ []) : (u ++ v).head? = u.head? := by
 cases u with
 | nil => exact absurd rfl h
 | cons a r => rfl
theorem digs_ne (u : Nat) : Lib.decDigits u ≠ [] := by
 rw [Lib.decDigits]; split <;> simp
theorem digs_head (u : Nat) : (Lib.decDigits u).head? = some 48 → u = 0 := by
 induction u using Nat.strongRecOn with
 | _ u ih =>
  intro h
  rw [Lib.decDigits] at h
  split at h
  ·rename_i hu
   rw [List.head?_cons] at h
   have h' := Option.some.inj h
   have : (UInt8.ofNat (48 + u)).toNat = 48 := by rw [h']; rfl
   rw [UInt8.toNat_ofNat'] at this
   omega
  ·rename_i hu
   rw [head_app (digs_ne _)] at h
   have := ih (u / 10) (by omega) h
   omega
theorem val_b {b : UInt8} {d : Nat} (h : Lib.digitVal b = some d) : UInt8.ofNat (48 + d) = b := by
 obtain ⟨h1, h2, h3⟩ := Lib.digitVal_eq h
 rw [show 48 + d = b.toNat by omega, UInt8.ofNat_toNat]
theorem digs_canon : ∀ (n : Nat) (t : List UInt8) (m : Nat), t.length = n → t ≠ [] → t.head? ≠ some 48 → Lib.decFrom 0 t = some m → Lib.decDigits m = t ∧ 1 ≤ m
 | 0, t, m, hl, hne, _, _ => absurd (List.length_eq_zero_iff.1 hl) hne
 | n + 1, t, m, hl, hne, hh, hm => by
  obtain ⟨u, b, rfl⟩ : ∃ u b, t = u ++ [b] := ⟨t.dropLast, t.getLast hne, (List.dropLast_concat_getLast hne).symm⟩
  obtain ⟨k, d, h1, h2, h3⟩ := dec_snoc u 0 b m hm
  obtain ⟨e1, e2, e3⟩ := Lib.digitVal_eq h2
  cases hu : u with
  | nil =>
   subst hu
   have hk : k = 0 := (Option.some.inj h1).symm
   have hb : b.toNat ≠ 48 := fun h => hh (by rw [List.nil_append, List.head?_cons, show b = 48 from UInt8.toNat_inj.1 h])
   have hmd : m = d := by omega
   subst hmd
   refine ⟨?_, by omega⟩
   rw [Lib.decDigits, dif_pos (by omega), val_b h2]; rfl
  | cons c r =>
   have hune : u ≠ [] := by rw [hu]; exact List.cons_ne_nil _ _
   rw [head_app hune] at hh
   obtain ⟨i1, i2⟩ := digs_canon n u k (by simpa using hl) hune hh h1
   refine ⟨?_, by omega⟩
   rw [Lib.decDigits, dif_neg (by omega), show m / 10 = k by omega, show m % 10 = d by omega, i1, val_b h2, hu]
theorem digs_iff {t : List UInt8} {m : Nat} (hne : t ≠ []) (hm : Lib.decFrom 0 t = some m) : (Lib.decDigits m == t) = !(t.head? == some 48 && decide (t.length > 1)) := by
 by_cases hh : t.head? = some 48
 ·by_cases hl : t.length > 1
  ·rw [hh, decide_eq_true hl]
   show _ = false
   rw [beq_eq_false_iff_ne]
   intro he
   have h0 := digs_head m (by rw [he]; exact hh)
   subst h0
   rw [show Lib.decDigits 0 = [48] by rw [Lib.decDigits, dif_pos (by omega)]; rfl] at he
   rw [← he] at hl
   simp at hl
  ·rw [hh, decide_eq_false hl]
   show _ = true
   obtain ⟨b, rfl⟩ : ∃ b, t = [b] := by
    match t, hne, hl with
    | [b], _, _ => exact ⟨b, rfl⟩
    | a :: b :: r, _, hl => exact absurd (by simp) hl
   have : b = 48 := Option.some.inj hh
   subst this
   have : m = 0 := by
    have : Lib.decFrom 0 [48] = some 0 := by decide
    rw [this] at hm; exact (Option.some.inj hm).symm
   subst this
   rw [show Lib.decDigits 0 = [48] by rw [Lib.decDigits, dif_pos (by omega)]; rfl]; rfl
 ·rw [(digs_canon _ t m rfl hne hh hm).1]
  have : (t.head? == some 48) = false := beq_eq_false_iff_ne.2 hh
  rw [this]; simp
def numNeg (s : List UInt8) : Bool := s.head? == some 45
def numT (s : List UInt8) : List UInt8 := if numNeg s then s.drop 1 else s
def numOk (s : List UInt8) : Bool := !(numT s == []) && (decide ((numT s).length ≤ 15) && ((numT s).all fun b => digS.contains b))
def numG (s : List UInt8) : Option Int := if numOk s && !((numT s).head? == some 48 && (decide ((numT s).length > 1) || numNeg s)) then some ((Lib.atoi s).getD 0) else none
theorem strings_CutPrefix_g (s : List UInt8) (R : Type) (k : List UInt8 → Bool → Option R) : strings_CutPrefix s [45] k = k (numT s) (numNeg s) := by
 cases s with
 | nil => rfl
 | cons b l =>
  have h1 : ∀ k : Bool → Option R, I_stringslite_CutPrefix.stringslite_HasPrefix (b :: l) [45] k = k (b == 45) := fun k => by
   show stringslite_HasPrefix_ NN (b :: l) [45] k = _
   unfold stringslite_HasPrefix_
   have g1 : decide (((b :: l).length : Int) ≥ (([45] : List UInt8).length : Int)) = true := by simp; omega
   rw [g1, cond_true]
   show k ([b] == [45]) = _
   congr 1
   simp
  have g2 : (decide (0 ≤ (([45] : List UInt8).length : Int)) && decide ((([45] : List UInt8).length : Int) ≤ ((b :: l).length : Int))) = true := by simp; omega
  show stringslite_CutPrefix_ I_stringslite_CutPrefix (b :: l) [45] k = _
  unfold stringslite_CutPrefix_
  rw [h1, g2, cond_true]
  have e : numNeg (b :: l) = (b == 45) := by unfold numNeg; simp
  unfold numT
  rw [e]
  cases b == 45 <;> rfl
theorem strings_TrimPrefix_g (s : List UInt8) (R : Type) (k : List UInt8 → Option R) : strings_TrimPrefix s [45] k = k (numT s) := by
 cases s with
 | nil => rfl
 | cons b l =>
  have h1 : ∀ k : Bool → Option R, I_stringslite_TrimPrefix.stringslite_HasPrefix (b :: l) [45] k = k (b == 45) := fun k => by
   show stringslite_HasPrefix_ NN (b :: l) [45] k = _
   unfold stringslite_HasPrefix_
   have g1 : decide (((b :: l).length : Int) ≥ (([45] : List UInt8).length : Int)) = true := by simp; omega
   rw [g1, cond_true]
   show k ([b] == [45]) = _
   congr 1
   simp
  have g2 : (decide (0 ≤ (([45] : List UInt8).length : Int)) && decide ((([45] : List UInt8).length : Int) ≤ ((b :: l).length : Int))) = true := by simp; omega
  show stringslite_TrimPrefix_ I_stringslite_TrimPrefix (b :: l) [45] k = _
  unfold stringslite_TrimPrefix_
  rw [h1, g2, cond_true]
  have e : numNeg (b :: l) = (b == 45) := by unfold numNeg; simp
  unfold numT
  rw [e]
  cases b == 45 <;> rfl
theorem atoi_t {t : List UInt8} {m : Nat} (hne : t ≠ []) (hd : (t.all fun b => digS.contains b) = true) (hm : Lib.decFrom 0 t = some m) : Lib.atoi t = some (m : Int) := by
 cases t with
 | nil => exact absurd rfl hne
 | cons b r =>
  rw [List.all_cons, Bool.and_eq_true] at hd
  have h45 : (b == 45) = false := by
   cases h : b == 45 with
   | false => rfl
   | true => rw [beq_iff_eq.1 h] at hd; exact absurd hd.1 (by decide)
  have h43 : (b == 43) = false := by
   cases h : b == 43 with
   | false => rfl
   | true => rw [beq_iff_eq.1 h] at hd; exact absurd hd.1 (by decide)
  show (if b == 45 then (Lib.decNat r).map (fun (m : Nat) => -(m : Int)) else if b == 43 then (Lib.decNat r).map (fun (m : Nat) => (m : Int)) else (Lib.decNat (b :: r)).map (fun (m : Nat) => (m : Int))) = _
  rw [h45, h43, if_neg (by decide), if_neg (by decide)]
  unfold Lib.decNat
  rw [List.isEmpty_cons, if_neg (by decide), hm]; rfl
theorem atoi_s {s : List UInt8} {m : Nat} (hok : numOk s = true) (hm : Lib.decFrom 0 (numT s) = some m) : Lib.atoi s = some (if numNeg s then -(m : Int) else (m : Int)) := by
 unfold numOk at hok
 rw [Bool.and_eq_true, Bool.and_eq_true, Bool.not_eq_true'] at hok
 obtain ⟨h1, h2, h3⟩ := hok
 have hne : numT s ≠ [] := beq_eq_false_iff_ne.1 h1
 cases hn : numNeg s with
 | false =>
  have e : numT s = s := by unfold numT; rw [hn]; rfl
  rw [e] at hne h3 hm
  exact atoi_t hne h3 hm
 | true =>
  obtain ⟨r, rfl⟩ : ∃ r, s = 45 :: r := by
   cases s with
   | nil => cases hn
   | cons b r =>
    have : b = 45 := by unfold numNeg at hn; simpa using hn
    exact ⟨r, by rw [this]⟩
  have e : numT (45 :: r) = r := by unfold numT; rw [hn]; rfl
  rw [e] at hne hm
  show (Lib.decNat r).map (fun (m : Nat) => -(m : Int)) = _
  unfold Lib.decNat
  have : r.isEmpty = false := by cases r with | nil => exact absurd rfl hne | cons => rfl
  rw [this, if_neg (by decide), hm]; rfl
theorem numT_len (s : List UInt8) : s.length ≤ (numT s).length + 1 := by
 unfold numT
 split
 ·rw [List.length_drop]; omega
 ·omega
theorem X_atoi_s {s : List UInt8} (hok : numOk s = true) (R : Type) (k : Int → Option R) : strconv_Atoi s k = k ((Lib.atoi s).getD 0) := by
 have hok' := hok
 unfold numOk at hok
 rw [Bool.and_eq_true, Bool.and_eq_true] at hok
 have hl := numT_len s
 have h15 := of_decide_eq_true hok.2.1
 obtain ⟨m, hm⟩ := dec_all (numT s) 0 hok.2.2
 have ha := atoi_s hok' hm
 show (bif decide (s.length ≤ 18) && (Lib.atoi s).isSome then k ((Lib.atoi s).getD 0) else none) = _
 rw [decide_eq_true (by omega), ha]; rfl
theorem numT_T {s : List UInt8} (hok : numOk s = true) : numT (numT s) = numT s ∧ numNeg (numT s) = false ∧ numOk (numT s) = true := by
 have hok' := hok
 unfold numOk at hok
 rw [Bool.and_eq_true, Bool.and_eq_true, Bool.not_eq_true'] at hok
 have hn : numNeg (numT s) = false := by
  cases ht : numT s with
  | nil => rfl
  | cons b r =>
   have h := hok.2.2
   rw [ht, List.all_cons, Bool.and_eq_true] at h
   unfold numNeg
   cases h45 : (b :: r).head? == some 45 with
   | false => rfl
   | true =>
    have : b = 45 := by simpa using h45
    rw [this] at h; exact absurd h.1 (by decide)
 have e : numT (numT s) = numT s := by
  show (if numNeg (numT s) then (numT s).drop 1 else numT s) = numT s
  rw [hn]; rfl
 refine ⟨e, hn, ?_⟩
 unfold numOk
 rw [e]
 exact hok'
theorem kit_Number_g {s : List UInt8} (hl : s.length ≤ 1000000) (R : Type) (k : Int → Bool → Option R) : kit_Number s 15 k = (numG s).elim (k 0 false) fun n => k n true := by
 have h1 : ∀ k : List UInt8 → Bool → Option R, I_kit_Number.strings_CutPrefix s [45] k = k (numT s) (numNeg s) := fun k => strings_CutPrefix_g s R k
 have hT : (numT s).length ≤ 1000000 := by unfold numT; split; (rw [List.length_drop]; omega); exact hl
 have h2 : ∀ k : List UInt8 → Option R, I_kit_Number.strings_Trim (numT s) digS k = k (Lib.trimS (numT s) digS) := fun k => Trim_g hT (by decide) R k
 show kit_Number_ I_kit_Number s 15 k = _
 unfold kit_Number_
 rw [h1]
 unfold numG
 cases hok : numOk s with
 | false =>
  show _ = k 0 false
  unfold numOk at hok
  cases he : numT s == [] with
  | true => rfl
  | false =>
   rw [cond_false]
   by_cases h15 : (numT s).length ≤ 15
   ·rw [decide_eq_false (show ¬ ((numT s).length : Int) > 15 by omega), cond_false, h2, trim_all]
    rw [he, decide_eq_true h15, Bool.not_false, Bool.true_and, Bool.true_and] at hok
    rw [hok]; rfl
   ·rw [decide_eq_true (show ((numT s).length : Int) > 15 by omega), cond_true]
 | true =>
  obtain ⟨tT, tN, tok⟩ := numT_T hok
  have h3 : ∀ k : Int → Option R, I_kit_Number.strconv_Atoi (numT s) k = k ((Lib.atoi (numT s)).getD 0) := fun k => X_atoi_s tok R k
  have hok' := hok
  unfold numOk at hok'
  rw [Bool.and_eq_true, Bool.and_eq_true, Bool.not_eq_true'] at hok'
  obtain ⟨he, h15, hall⟩ := hok'
  have h15 := of_decide_eq_true h15
  obtain ⟨m, hm⟩ := dec_all (numT s) 0 hall
  have ha := atoi_s hok hm
  have hat := atoi_s tok (by rw [tT]; exact hm)
  have hlt := Lib.decFrom_lt18 hm (by omega)
  rw [he, cond_false, decide_eq_false (show ¬ ((numT s).length : Int) > 15 by omega), cond_false, h2, trim_all, hall, Bool.not_true, cond_false]
  obtain ⟨b, r, hbr⟩ : ∃ b r, numT s = b :: r := by
   cases h : numT s with
   | nil => rw [h] at he; cases he
   | cons b r => exact ⟨b, r, rfl⟩
  have hat0 : ∀ k : UInt8 → Option R, at_ (numT s) 0 k = k b := fun k => at_nat (i := 0) (by rw [hbr]; rfl) k
  have hb : ((b.toNat : Int) == 48) = ((numT s).head? == some 48) := by
   rw [hbr, List.head?_cons]
   by_cases hb : b = 48
   ·subst hb; rfl
   ·have hn : b.toNat ≠ 48 := fun h => hb (UInt8.toNat_inj.1 h)
    have h1 : ((b.toNat : Int) == 48) = false := beq_eq_false_iff_ne.2 (by omega)
    have h2 : (some b == some (48 : UInt8)) = false := beq_eq_false_iff_ne.2 fun h => hb (Option.some.inj h)
    rw [h1, h2]
  have hgt : decide (((numT s).length : Int) > 1) = decide ((numT s).length > 1) := by
   by_cases h : (numT s).length > 1
   ·rw [decide_eq_true h, decide_eq_true (by omega)]
   ·rw [decide_eq_false h, decide_eq_false (by omega)]
  rw [hat0, hb, h3, hgt, hat, ha, tN]
  have hw : w64 (0 - (m : Int)) = -(m : Int) := by rw [w64_eq (by omega) (by omega)]; omega
  simp only [Bool.false_eq_true, if_false, Option.getD_some, hw]
  cases (numT s).head? == some 48 <;> cases decide ((numT s).length > 1) <;> cases numNeg s <;> rfl
def numQ (s : List UInt8) : Int := if numOk s then (Lib.atoi s).getD 0 else 0
theorem numQ_G {s : List UInt8} {n : Int} (h : numG s = some n) : numQ s = n := by
 unfold numG at h
 unfold numQ
 cases hok : numOk s with
 | false => rw [hok] at h; cases h
 | true =>
  rw [hok] at h
  simp only [Bool.true_and] at h
  split at h
  ·exact Option.some.inj h
  ·cases h
theorem Q_Number_g {s : List UInt8} (hl : s.length ≤ 1000000) (R : Type) (k : Int → Bool → Option R) : Q_Number s 15 k = k (numQ s) (numG s).isSome := by
 have hT : (numT s).length ≤ 1000000 := by unfold numT; split; (rw [List.length_drop]; omega); exact hl
 have h1 : ∀ k : List UInt8 → Option R, I_Q_Number.strings_TrimPrefix s [45] k = k (numT s) := fun k => strings_TrimPrefix_g s R k
 have h2 : ∀ k : Bool → Option R, I_Q_Number.Q_only (numT s) digS k = k ((numT s).all fun b => digS.contains b) := fun k => Q_only_g digS hT R k
 show Q_Number_ I_Q_Number s 15 k = _
 unfold Q_Number_
 rw [h1]
 unfold numG numQ
 cases hok : numOk s with
 | false =>
  show _ = k 0 false
  unfold numOk at hok
  cases he : numT s == [] with
  | true => rfl
  | false =>
   rw [cond_false]
   by_cases h15 : (numT s).length ≤ 15
   ·rw [decide_eq_false (show ¬ ((numT s).length : Int) > 15 by omega), cond_false, h2]
    rw [he, decide_eq_true h15, Bool.not_false, Bool.true_and, Bool.true_and] at hok
    rw [hok]; rfl
   ·rw [decide_eq_true (show ((numT s).length : Int) > 15 by omega), cond_true]
 | true =>
  have hok' := hok
  unfold numOk at hok'
  rw [Bool.and_eq_true, Bool.and_eq_true, Bool.not_eq_true'] at hok'
  obtain ⟨he, h15, hall⟩ := hok'
  have h15 := of_decide_eq_true h15
  have hne : numT s ≠ [] := beq_eq_false_iff_ne.1 he
  obtain ⟨m, hm⟩ := dec_all (numT s) 0 hall
  have ha := atoi_s hok hm
  have hlt := Lib.decFrom_lt18 hm (by omega)
  have h3 : ∀ k : Int → Option R, I_Q_Number.strconv_Atoi s k = k ((Lib.atoi s).getD 0) := fun k => X_atoi_s hok R k
  have h4 : ∀ k : List UInt8 → Option R, I_Q_Number.strconv_Itoa ((Lib.atoi s).getD 0) k = k (Lib.itoa ((Lib.atoi s).getD 0)) := fun k => by
   show (bif in64 ((Lib.atoi s).getD 0) then k _ else none) = _
   have : in64 ((Lib.atoi s).getD 0) = true := by
    rw [ha, Option.getD_some]
    unfold in64
    cases numNeg s <;> simp <;> omega
   rw [this]; rfl
  rw [he, cond_false, decide_eq_false (show ¬ ((numT s).length : Int) > 15 by omega), cond_false, h2, hall, Bool.not_true, cond_false, h3, h4]
  have key : (Lib.itoa ((Lib.atoi s).getD 0) == s) = !((numT s).head? == some 48 && (decide ((numT s).length > 1) || numNeg s)) := by
   rw [ha, Option.getD_some]
   have hi := digs_iff hne hm
   cases hn : numNeg s with
   | false =>
    have e : numT s = s := by unfold numT; rw [hn]; rfl
    rw [if_neg (by decide), Lib.itoa_nonneg, Bool.or_false, ← hi, e]
   | true =>
    obtain ⟨r, rfl⟩ : ∃ r, s = 45 :: r := by
     cases s with
     | nil => cases hn
     | cons b r =>
      have : b = 45 := by unfold numNeg at hn; simpa using hn
      exact ⟨r, by rw [this]⟩
    have e : numT (45 :: r) = r := by unfold numT; rw [hn]; rfl
    rw [e] at hne hm hi ⊢
    rw [if_pos rfl, Bool.or_true, Bool.and_true]
    by_cases hm0 : m = 0
    ·subst hm0
     have hz : Lib.itoa (-((0 : Nat) : Int)) = [48] := by
      show Lib.decDigits 0 = [48]
      rw [Lib.decDigits, dif_pos (by omega)]; rfl
     rw [hz]
     have h48 : r.head? = some 48 := Classical.byContradiction fun h => by
      have := (digs_canon _ r 0 rfl hne h hm).2
      omega
     rw [h48]; rfl
    ·rw [Lib.itoa_neg m (by omega)]
     have hc : (45 :: Lib.decDigits m == 45 :: r) = (Lib.decDigits m == r) := by simp
     rw [hc, hi]
     by_cases h48 : r.head? = some 48
     ·have hl1 : r.length > 1 := Classical.byContradiction fun h => by
       rw [decide_eq_false h, Bool.and_false, Bool.not_false, beq_iff_eq] at hi
       exact hm0 (digs_head m (by rw [hi]; exact h48))
      rw [decide_eq_true hl1, Bool.and_true]
     ·have : (r.head? == some 48) = false := beq_eq_false_iff_ne.2 h48
      rw [this]; rfl
  rw [key]
  simp only [if_true, Bool.true_and]
  cases (!((numT s).head? == some 48 && (decide ((numT s).length > 1) || numNeg s))) <;> rfl
end Go.Am
set_option linter.unusedVariables false
set_option linter.unusedSectionVars false
set_option linter.unusedSimpArgs false
set_option maxRecDepth 100000
namespace Go.Am
open Go Go.Proofs
variable [Fuel]
theorem split_none {c : UInt8} {s : List UInt8} (h : s.count c = 0) : splitG c s = [s] := by
 have : (splitG c s).length = 1 := by rw [splitG_count, h]
 rw [splitG_cut] at this ⊢
 cases hc : (cutB c s).2.2 with
 | false => rfl
 | true =>
  rw [hc, cond_true, List.length_cons] at this
  have h2 := splitG_ne c (cutB c s).2.1
  have := List.length_pos_iff.2 h2
  omega
theorem genSplit_loop (c : UInt8) : ∀ (m : Nat) (s : List UInt8) (n i : Nat) (done : List (List UInt8)), s.count c = m → s.length ≤ 1000000 → done.length = i → i + m ≤ 1000000 → m < n →
  ∃ last pre, splitG c s = pre ++ [last] ∧ pre.length = m ∧ ∀ (R : Type) (e0 : List UInt8 → Int → List (List UInt8) → Option R),
   strings_genSplit_L11 I_strings_genSplit n s [c] 0 ((i + m : Nat) : Int) (i : Int) (done ++ List.replicate (m + 1) []) e0 = e0 last ((i + m : Nat) : Int) (done ++ (pre ++ [[]]))
 | _, _, 0, _, _, _, _, _, _, h => by omega
 | 0, s, n + 1, i, done, hc, hl, hd, hi, _ => by
  refine ⟨s, [], by rw [split_none hc]; rfl, rfl, fun R e0 => ?_⟩
  rw [strings_genSplit_L11, decide_eq_false (show ¬ ((i : Int) < ((i + 0 : Nat) : Int)) by omega), cond_false]
  rfl
 | m + 1, s, n + 1, i, done, hc, hl, hd, hi, hn => by
  have hcon : s.contains c = true := by
   rw [List.contains_iff_mem]
   exact List.count_pos_iff.1 (by omega)
  obtain ⟨j, e1, e2, e3, e4⟩ := ixb_some c s hcon
  have hcut := cutB_some c s j e3 e4
  have hdec : s = s.take j ++ c :: s.drop (j + 1) := by
   have := List.drop_eq_getElem_cons (l := s) (i := j) e2
   have hg : s[j] = c := by rw [List.getElem?_eq_getElem e2] at e3; exact Option.some.inj e3
   rw [hg] at this
   rw [← this, List.take_append_drop]
  have hct : (s.take j).count c = 0 := by
   rw [List.count_eq_zero]
   intro h
   rw [← List.contains_iff_mem, e4] at h
   cases h
  have hcd : (s.drop (j + 1)).count c = m := by
   have h := congrArg (List.count c) hdec
   rw [List.count_append, List.count_cons_self, hct, hc] at h
   omega
  obtain ⟨last, pre, p1, p2, p3⟩ := genSplit_loop c m (s.drop (j + 1)) n (i + 1) (done ++ [s.take j]) hcd (by rw [List.length_drop]; omega) (by rw [List.length_append, hd]; rfl) (by omega) (by omega)
  refine ⟨last, s.take j :: pre, ?_, by rw [List.length_cons, p2], fun R e0 => ?_⟩
  ·rw [splitG_cut, hcut, cond_true, p1]; rfl
  ·have h1 : ∀ k : Int → Option R, I_strings_genSplit.strings_Index s [c] k = k (j : Int) := fun k => by rw [← e1]; rfl
   have hw0 : w64 ((j : Int) + 0) = (j : Int) := by rw [w64_eq (by omega) (by omega)]; omega
   have hw1 : w64 ((j : Int) + ((([c] : List UInt8).length : Nat) : Int)) = ((j + 1 : Nat) : Int) := w64_succ (show j < 4611686018427387904 by omega)
   have g1 : (decide (0 ≤ (j : Int)) && decide ((j : Int) ≤ (s.length : Int))) = true := by simp; omega
   have g2 : (decide (0 ≤ ((j + 1 : Nat) : Int)) && decide (((j + 1 : Nat) : Int) ≤ (s.length : Int))) = true := by simp; omega
   have hlen : i < (done ++ List.replicate (m + 1 + 1) ([] : List UInt8)).length := by simp; omega
   have hget : (done ++ List.replicate (m + 1 + 1) ([] : List UInt8))[i]? = some [] := by
    rw [List.getElem?_append_right (by omega), List.getElem?_replicate, if_pos (by omega)]
   rw [strings_genSplit_L11, decide_eq_true (show ((i : Int) < ((i + (m + 1) : Nat) : Int)) by omega), cond_true, h1, decide_eq_false (show ¬ ((j : Int) < 0) by omega), cond_false, hw0, g1, cond_true, inr_nat hlen, at_nat hget, hw1, g2, cond_true, w64_succ (show i < 4611686018427387904 by omega), set_nat]
   have hset : (done ++ List.replicate (m + 1 + 1) ([] : List UInt8)).set i (s.take j) = (done ++ [s.take j]) ++ List.replicate (m + 1) [] := by
    rw [List.replicate_succ, ← hd, set_mid, List.append_assoc]; rfl
   have hi' : ((j : Int)).toNat = j := by omega
   have hi2 : (((j + 1 : Nat) : Int)).toNat = j + 1 := by omega
   rw [hi', hi2, hset, show i + (m + 1) = i + 1 + m by omega, p3, List.append_assoc]; rfl
theorem Split_g {s : List UInt8} (c : UInt8) (hl : s.length ≤ 900000) (R : Type) (k : List (List UInt8) → Option R) : strings_Split s [c] k = k (splitG c s) := by
 have hcl : s.count c ≤ s.length := List.count_le_length
 have h1 : ∀ k : Int → Option R, I_strings_genSplit.strings_Count s [c] k = k ((s.count c : Nat) : Int) := fun k => rfl
 obtain ⟨last, pre, p1, p2, p3⟩ := genSplit_loop c (s.count c) s NN 0 [] rfl (by omega) rfl (by omega) (by have := NN_ok; omega)
 have hw1 : w64 ((s.length : Int) + 1) = ((s.length + 1 : Nat) : Int) := w64_succ (by omega)
 have hw2 : w64 (((s.count c : Nat) : Int) + 1) = ((s.count c + 1 : Nat) : Int) := w64_succ (by omega)
 have hmin : (if ((s.length + 1 : Nat) : Int) < ((s.count c + 1 : Nat) : Int) then ((s.length + 1 : Nat) : Int) else ((s.count c + 1 : Nat) : Int)) = ((s.count c + 1 : Nat) : Int) := if_neg (by omega)
 have hw3 : w64 (((s.count c + 1 : Nat) : Int) - 1) = ((s.count c : Nat) : Int) := by rw [w64_pred (by omega) (by omega)]; rfl
 have g1 : (decide (0 ≤ ((s.count c + 1 : Nat) : Int)) && (decide (((s.count c + 1 : Nat) : Int) ≤ ((s.count c + 1 : Nat) : Int)) && decide (((s.count c + 1 : Nat) : Int) * (16 : Nat) ≤ 140737488355328))) = true := by simp; omega
 show strings_genSplit_ I_strings_genSplit s [c] 0 (-1) k = _
 unfold strings_genSplit_
 have e0 : ((-1 : Int) == 0) = false := rfl
 have e1 : (([c] : List UInt8) == []) = false := rfl
 have e2 : decide ((-1 : Int) < 0) = true := rfl
 rw [e0, e1, e2, cond_false, cond_false, cond_true, h1, hw1, hw2, hmin, g1, cond_true, hw3]
 have hrep : (((s.count c + 1 : Nat) : Int)).toNat = s.count c + 1 := by omega
 rw [hrep]
 have := p3 R (fun e16 e17 e18 => (inr e18 e17 (at_ e18 e17 fun x19 => (bif (decide (0 ≤ (w64 (e17 + 1))) && decide ((w64 (e17 + 1)) ≤ ((set_ e18 e17 e16).length : Int))) then k ((set_ e18 e17 e16).take ((w64 (e17 + 1)) : Int).toNat) else none))))
 rw [Nat.zero_add, List.nil_append, List.nil_append] at this
 refine this.trans ?_
 have hlen : s.count c < (pre ++ [([] : List UInt8)]).length := by simp; omega
 have hget : (pre ++ [([] : List UInt8)])[s.count c]? = some [] := by rw [← p2]; simp
 have hset : (pre ++ [([] : List UInt8)]).set (s.count c) last = splitG c s := by
  rw [← p2, set_mid, p1]
 rw [inr_nat hlen, at_nat hget, hw2, set_nat, hset]
 have hsl : (splitG c s).length = s.count c + 1 := splitG_count c s
 have g2 : (decide (0 ≤ ((s.count c + 1 : Nat) : Int)) && decide (((s.count c + 1 : Nat) : Int) ≤ ((splitG c s).length : Int))) = true := by rw [hsl]; simp; omega
 rw [g2, cond_true, hrep, List.take_of_length_le (by omega)]
def idxG (x : List UInt8) : List (List UInt8) → Int
 | [] => -1
 | y :: ys => if x == y then 0 else if idxG x ys == -1 then -1 else idxG x ys + 1
theorem idxG_ge (x : List UInt8) : ∀ l, -1 ≤ idxG x l ∧ idxG x l < (l.length : Int)
 | [] => by simp [idxG]
 | y :: ys => by
  have ih := idxG_ge x ys
  unfold idxG
  split
  ·refine ⟨by omega, ?_⟩; rw [List.length_cons]; omega
  ·split
   ·simp; omega
   ·simp; omega
theorem idxG_in (x : List UInt8) : ∀ l, decide (idxG x l ≥ 0) = l.contains x
 | [] => rfl
 | y :: ys => by
  have ih := idxG_in x ys
  have hge := idxG_ge x ys
  rw [List.contains_cons]
  unfold idxG
  cases hxy : x == y with
  | true => rfl
  | false =>
   rw [Bool.false_or, ← ih]
   simp only [Bool.false_eq_true, if_false]
   cases h1 : idxG x ys == -1 with
   | true => rw [beq_iff_eq.1 h1]; rfl
   | false =>
    have := beq_eq_false_iff_ne.1 h1
    simp only [Bool.false_eq_true, if_false]
    rw [decide_eq_true (show idxG x ys + 1 ≥ 0 by omega), decide_eq_true (show idxG x ys ≥ 0 by omega)]
theorem index_loop (x : List UInt8) (d : List (List UInt8)) (hl : d.length ≤ 1000000) : ∀ (xs : List (List UInt8)) (n i : Nat), d.drop i = xs → xs.length < n → ∀ (R : Type) (e0 : Int → Option R) (e1 : Option R),
  slices_Index__string_L2 NN n d x (d.length : Int) (i : Int) e0 e1 = bif idxG x xs == -1 then e1 else e0 ((i : Int) + idxG x xs)
 | _, 0, _, _, h, _, _, _ => by omega
 | [], n + 1, i, h, _, R, e0, e1 => by rw [slices_Index__string_L2, ge_drop h]; rfl
 | y :: ys, n + 1, i, h, hn, R, e0, e1 => by
  have h' := drop_cons h
  have hlt := h'.2.1
  have ih := index_loop x d hl ys n (i + 1) h'.2.2.1 (Nat.lt_of_succ_lt_succ (by simpa only [List.length_cons] using hn)) R e0 e1
  rw [slices_Index__string_L2, lt_drop h, cond_true, get_drop h, w64_succ (show i < 4611686018427387904 by omega), ih]
  have hge := idxG_ge x ys
  show _ = bif (if x == y then (0 : Int) else if idxG x ys == -1 then -1 else idxG x ys + 1) == -1 then e1 else e0 ((i : Int) + if x == y then (0 : Int) else if idxG x ys == -1 then -1 else idxG x ys + 1)
  cases x == y with
  | true =>
   rw [cond_true, if_pos rfl, show ((0 : Int) == -1) = false from rfl, cond_false]
   congr 1
  | false =>
   simp only [cond_false, Bool.false_eq_true, if_false]
   cases h1 : idxG x ys == -1 with
   | true => rfl
   | false =>
    have := beq_eq_false_iff_ne.1 h1
    have h2 : (idxG x ys + 1 == -1) = false := beq_eq_false_iff_ne.2 (by omega)
    simp only [cond_false, Bool.false_eq_true, if_false]
    rw [h2, cond_false]
    congr 1
    omega
theorem slices_Index_g (x : List UInt8) (d : List (List UInt8)) (hl : d.length ≤ 1000000) (R : Type) (k : Int → Option R) : slices_Index__string d x k = k (idxG x d) := by
 show slices_Index__string_L2 NN NN d x (d.length : Int) ((0 : Nat) : Int) (fun e => k e) (k (-1)) = _
 refine (index_loop x d hl d NN 0 rfl (by have := NN_ok; omega) R _ _).trans ?_
 cases h : idxG x d == -1 with
 | true => rw [beq_iff_eq.1 h]; rfl
 | false =>
  rw [cond_false]
  congr 1
  omega
theorem Words_loop (d : List (List UInt8)) (hl : d.length ≤ 1000000) : ∀ (xs : List (List UInt8)) (n i : Nat), d.drop i = xs → xs.length < n → ∀ (R : Type) (e0 : Bool → List (List UInt8) → Option R) (e1 : List (List UInt8) → Option R),
  kit_Words_L3 I_kit_Words n (d.length : Int) (i : Int) d e0 e1 = bif xs.contains [] then e0 false d else e1 d
 | _, 0, _, _, h, _, _, _ => by omega
 | [], n + 1, i, h, _, R, e0, e1 => by rw [kit_Words_L3, ge_drop h]; rfl
 | y :: ys, n + 1, i, h, hn, R, e0, e1 => by
  have h' := drop_cons h
  have hlt := h'.2.1
  have ih := Words_loop d hl ys n (i + 1) h'.2.2.1 (Nat.lt_of_succ_lt_succ (by simpa only [List.length_cons] using hn)) R e0 e1
  rw [kit_Words_L3, lt_drop h, cond_true, inr_drop h, at_nat h'.1, w64_succ (show i < 4611686018427387904 by omega), ih, List.contains_cons]
  have hc : (([] : List UInt8) == y) = (y == []) := by cases y <;> rfl
  rw [hc]
  cases y == [] <;> rfl
def wordsOk (s : List UInt8) : Bool := !(splitG 32 s).contains []
theorem kit_Words_g {s : List UInt8} (hl : s.length ≤ 900000) (R : Type) (k : List (List UInt8) → Bool → Option R) : kit_Words s k = bif wordsOk s then k (splitG 32 s) true else k [] false := by
 have h1 : ∀ k : List (List UInt8) → Option R, I_kit_Words.strings_Split s [32] k = k (splitG 32 s) := fun k => Split_g 32 hl R k
 have hsl : (splitG 32 s).length = s.count 32 + 1 := splitG_count 32 s
 have hcl : s.count 32 ≤ s.length := List.count_le_length
 show I_kit_Words.strings_Split s [32] _ = _
 rw [h1]
 refine (Words_loop (splitG 32 s) (by omega) (splitG 32 s) NN 0 rfl (by have := NN_ok; omega) R _ _).trans ?_
 unfold wordsOk
 cases (splitG 32 s).contains [] <;> rfl
theorem Q_Words_g {s : List UInt8} (hl : s.length ≤ 900000) (R : Type) (k : List (List UInt8) → Bool → Option R) : Q_Words s k = k (splitG 32 s) (wordsOk s) := by
 have hsl : (splitG 32 s).length = s.count 32 + 1 := splitG_count 32 s
 have hcl : s.count 32 ≤ s.length := List.count_le_length
 have h1 : ∀ k : List (List UInt8) → Option R, I_Q_Words.strings_Split s [32] k = k (splitG 32 s) := fun k => Split_g 32 hl R k
 have h2 : ∀ k : Bool → Option R, I_Q_Words.slices_Contains__string (splitG 32 s) [] k = k ((splitG 32 s).contains []) := fun k => by
  have h3 : ∀ k : Int → Option R, I_slices_Contains__string.slices_Index__string (splitG 32 s) [] k = k (idxG [] (splitG 32 s)) := fun k => slices_Index_g [] _ (by omega) R k
  show I_slices_Contains__string.slices_Index__string (splitG 32 s) [] _ = _
  rw [h3, idxG_in]
 show I_Q_Words.strings_Split s [32] _ = _
 rw [h1, h2]
 rfl
def endsNl (s : List UInt8) : Bool := s.getLast? == some 10
def chop (s : List UInt8) : List UInt8 := if endsNl s then s.dropLast else s
theorem CutSuffix_g {s : List UInt8} (hl : s.length ≤ 1000000) (R : Type) (k : List UInt8 → Bool → Option R) : strings_CutSuffix s [10] k = k (chop s) (endsNl s) := by
 cases hs : s with
 | nil => rfl
 | cons b l =>
  rw [← hs]
  have hlen : 1 ≤ s.length := by rw [hs]; simp
  have hw : w64 ((s.length : Int) - ((([10] : List UInt8).length : Nat) : Int)) = ((s.length - 1 : Nat) : Int) := w64_pred (by omega) (by omega)
  have g1 : decide ((s.length : Int) ≥ ((([10] : List UInt8).length : Nat) : Int)) = true := by simp; omega
  have g2 : (decide (0 ≤ ((s.length - 1 : Nat) : Int)) && decide (((s.length - 1 : Nat) : Int) ≤ (s.length : Int))) = true := by rw [decide_eq_true (by omega), decide_eq_true (by omega)]; rfl
  have hto : (((s.length - 1 : Nat) : Int)).toNat = s.length - 1 := by omega
  have hdrop : (s.drop (s.length - 1) == [10]) = endsNl s := by
   unfold endsNl
   have hne : s ≠ [] := by rw [hs]; exact List.cons_ne_nil _ _
   have hsp : s = s.dropLast ++ [s.getLast hne] := (List.dropLast_concat_getLast hne).symm
   have hd : s.drop (s.length - 1) = [s.getLast hne] := by
    conv => lhs; rw [hsp]
    rw [List.drop_append]
    simp
   rw [hd, List.getLast?_eq_some_getLast hne]
   simp
  have h1 : ∀ k : Bool → Option R, I_stringslite_CutSuffix.stringslite_HasSuffix s [10] k = k (endsNl s) := fun k => by
   show stringslite_HasSuffix_ NN s [10] k = _
   unfold stringslite_HasSuffix_
   rw [g1, cond_true, hw, g2, cond_true, hto, hdrop]
  show stringslite_CutSuffix_ I_stringslite_CutSuffix s [10] k = _
  unfold stringslite_CutSuffix_ chop
  rw [h1, hw, g2, cond_true, hto]
  cases endsNl s with
  | false => rfl
  | true =>
   rw [Bool.not_true, cond_false, if_pos rfl, List.dropLast_eq_take]
def linesG (s : List UInt8) : List (List UInt8) := if s == [] then [] else splitG 10 (chop s)
def endG (s : List UInt8) : Bool := s == [] || endsNl s
theorem chop_len (s : List UInt8) : (chop s).length ≤ s.length := by
 unfold chop; split
 ·rw [List.length_dropLast]; omega
 ·exact Nat.le_refl _
theorem kit_Lines_g {s : List UInt8} (hl : s.length ≤ 900000) (R : Type) (k : List (List UInt8) → Bool → Option R) : kit_Lines s k = k (linesG s) (endG s) := by
 have h1 : ∀ k : List UInt8 → Bool → Option R, I_kit_Lines.strings_CutSuffix s [10] k = k (chop s) (endsNl s) := fun k => CutSuffix_g (by omega) R k
 have h2 : ∀ k : List (List UInt8) → Option R, I_kit_Lines.strings_Split (chop s) [10] k = k (splitG 10 (chop s)) := fun k => Split_g 10 (by have := chop_len s; omega) R k
 show kit_Lines_ I_kit_Lines s k = _
 unfold kit_Lines_ linesG endG
 rw [h1, h2]
 cases s == [] <;> rfl
def goG {α : Type} (f : List UInt8 → Option α) (ended : Bool) : Nat → List (List UInt8) → List α → Sum Nat (List α)
 | _, [], acc => .inr acc
 | i, l :: ls, acc => match (if !ended && ls == [] then none else f l) with
  | none => .inl i
  | some a => goG f ended (i + 1) ls (acc ++ [a])
theorem goG_cons {α : Type} (f : List UInt8 → Option α) (ended : Bool) (i : Nat) (l : List UInt8) (ls : List (List UInt8)) (acc : List α) : goG f ended i (l :: ls) acc = match (if !ended && ls == [] then none else f l) with
  | none => .inl i
  | some a => goG f ended (i + 1) ls (acc ++ [a]) := rfl
def goQ {α : Type} (f : List UInt8 → Option α) : Nat → Nat → List UInt8 → List α → Sum Nat (List α)
 | 0, i, _, _ => .inl i
 | n + 1, i, t, acc => if t == [] then .inr acc else if !(cutB 10 t).2.2 then .inl i else match f (cutB 10 t).1 with
  | none => .inl i
  | some a => goQ f n (i + 1) (cutB 10 t).2.1 (acc ++ [a])
theorem cut_back (t : List UInt8) (h : (cutB 10 t).2.2 = true) : t = (cutB 10 t).1 ++ 10 :: (cutB 10 t).2.1 := by
 rw [cut_has] at h
 obtain ⟨j, e1, e2, e3, e4⟩ := ixb_some 10 t h
 rw [cutB_some 10 t j e3 e4]
 have := List.drop_eq_getElem_cons (l := t) (i := j) e2
 have hg : t[j] = 10 := by rw [List.getElem?_eq_getElem e2] at e3; exact Option.some.inj e3
 rw [hg] at this
 show t = t.take j ++ 10 :: t.drop (j + 1)
 rw [← this, List.take_append_drop]
theorem cut_no (t : List UInt8) : (cutB 10 t).1.contains 10 = false := by
 cases h : t.contains 10 with
 | false => rw [cutB_none 10 t h]; exact h
 | true =>
  obtain ⟨j, e1, e2, e3, e4⟩ := ixb_some 10 t h
  rw [cutB_some 10 t j e3 e4]
  exact e4
theorem cutB_of {a b : List UInt8} (h : a.contains 10 = false) : cutB 10 (a ++ 10 :: b) = (a, b, true) := by
 have := cutB_some 10 (a ++ 10 :: b) a.length (by simp) (by rw [List.take_left']; exact h; rfl)
 rw [this]
 simp
theorem goQ_G {α : Type} (f : List UInt8 → Option α) : ∀ (n i : Nat) (t : List UInt8) (acc : List α), t.length < n → goQ f n i t acc = goG f (endG t) i (linesG t) acc
 | 0, _, _, _, h => by omega
 | n + 1, i, t, acc, h => by
  cases ht : t == [] with
  | true =>
   rw [beq_iff_eq.1 ht]; rfl
  | false =>
   have hne : t ≠ [] := beq_eq_false_iff_ne.1 ht
   have hL : linesG t = splitG 10 (chop t) := by unfold linesG; rw [ht]; rfl
   have hE : endG t = endsNl t := by unfold endG; rw [ht]; rfl
   rw [goQ, ht, hL, hE, if_neg (by decide)]
   cases hc : (cutB 10 t).2.2 with
   | false =>
    have hcon : t.contains 10 = false := by rw [← cut_has]; exact hc
    have hend : endsNl t = false := by
     unfold endsNl
     rw [beq_eq_false_iff_ne]
     intro hl
     have := List.mem_of_getLast? hl
     rw [← List.contains_iff_mem, hcon] at this
     cases this
    have hchop : chop t = t := by unfold chop; rw [hend]; rfl
    have hcnt : t.count 10 = 0 := by
     rw [List.count_eq_zero]; intro hm
     rw [← List.contains_iff_mem, hcon] at hm; cases hm
    rw [hchop, split_none hcnt, hend, goG_cons]
    rfl
   | true =>
    rw [if_neg (by decide)]
    have hback := cut_back t hc
    have hno := cut_no t
    have hlen := (cutB_len 10 t).2 hc
    generalize (cutB 10 t).1 = a at *
    generalize (cutB 10 t).2.1 = b at *
    subst hback
    cases hb : b == [] with
    | true =>
     have := beq_iff_eq.1 hb
     subst this
     have hend : endsNl (a ++ [10]) = true := by unfold endsNl; simp
     have hchop : chop (a ++ [10]) = a := by unfold chop; rw [hend]; simp
     have hcnt : a.count 10 = 0 := by
      rw [List.count_eq_zero]; intro hm
      rw [← List.contains_iff_mem, hno] at hm; cases hm
     rw [hchop, split_none hcnt, hend, goG_cons]
     show _ = match f a with | none => _ | some x => _
     cases f a with
     | none => rfl
     | some x =>
      show goQ f n (i + 1) [] _ = _
      cases n with
      | zero => omega
      | succ n => rfl
    | false =>
     have hbne : b ≠ [] := beq_eq_false_iff_ne.1 hb
     have hend : endsNl (a ++ 10 :: b) = endsNl b := by
      unfold endsNl
      rw [List.getLast?_append, List.getLast?_cons]
      cases hg : b.getLast? with
      | none => exact absurd (List.getLast?_eq_none_iff.1 hg) hbne
      | some x => rfl
     have hchop : chop (a ++ 10 :: b) = a ++ 10 :: chop b := by
      unfold chop
      rw [hend]
      cases endsNl b with
      | false => rfl
      | true =>
       rw [if_pos rfl, if_pos rfl, List.dropLast_append_of_ne_nil (List.cons_ne_nil _ _), List.dropLast_cons_of_ne_nil hbne]
     have hsp : splitG 10 (chop (a ++ 10 :: b)) = a :: splitG 10 (chop b) := by
      rw [hchop, splitG_cut, cutB_of hno]; rfl
     have ih := fun acc => goQ_G f n (i + 1) b acc (by omega)
     have hLb : linesG b = splitG 10 (chop b) := by unfold linesG; rw [hb]; rfl
     have hEb : endG b = endsNl b := by unfold endG; rw [hb]; rfl
     rw [hsp, hend, goG_cons]
     have hnn : (splitG 10 (chop b) == []) = false := beq_eq_false_iff_ne.2 (splitG_ne _ _)
     rw [hnn, Bool.and_false]
     show _ = match f a with | none => _ | some x => _
     cases f a with
     | none => rfl
     | some x =>
      show goQ f n (i + 1) b _ = goG f (endsNl b) (i + 1) (splitG 10 (chop b)) _
      rw [ih, hLb, hEb]
theorem linesG_len (s : List UInt8) : (linesG s).length ≤ s.length + 1 := by
 unfold linesG
 split
 ·simp
 ·have h1 : (splitG 10 (chop s)).length = (chop s).count 10 + 1 := splitG_count 10 _
  have h2 : (chop s).count 10 ≤ (chop s).length := List.count_le_length
  have h3 := chop_len s
  omega
theorem linesG_mem (s : List UInt8) : ∀ l ∈ linesG s, l.length ≤ s.length ∧ ∀ x ∈ l, x ∈ s := by
 intro l h
 unfold linesG at h
 split at h
 ·cases h
 ·have h1 := splitG_len 10 _ l h
  have h2 := chop_len s
  refine ⟨by omega, fun x hx => ?_⟩
  have := (splitG_mem 10 _ l h x hx).1
  unfold chop at this
  split at this
  ·exact List.dropLast_subset _ this
  ·exact this
end Go.Am
