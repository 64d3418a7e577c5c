/- The plain law, in Lean alone: T2, T3. No condition: lemmas for the claim. -/
import Derived.Test.YtoajjnhmofegcaaGreatDoorPlT0
set_option linter.unusedVariables false
set_option linter.unusedSectionVars false
set_option linter.unusedSimpArgs false
set_option maxRecDepth 100000
namespace Go.Am
open Go Go.Proofs
variable [Fuel]
theorem plain_asc {s : List UInt8} (h : plainG s = true) : ascB s := fun x hx => by
 have h1 := List.all_eq_true.1 h x hx
 have h2 : ∀ x : Fin 256, plainS.contains (UInt8.ofNat x) = true → (UInt8.ofNat x).toNat < 128 := by decide +kernel
 have := h2 ⟨x.toNat, x.toNat_lt⟩ (by simpa using h1)
 simpa using this
def inBx (n lo hi : Int) : Bool := decide (lo ≤ n) && decide (n ≤ hi)
theorem R_in_g (n lo hi : Int) (R : Type) (k : Bool → Option R) : R_in n lo hi k = k (inBx n lo hi) := by
 show (bif decide (lo ≤ n) then k (decide (n ≤ hi)) else k false) = _
 unfold inBx
 cases decide (lo ≤ n) <;> rfl
def anyS (s : List UInt8) : Bool := s.any fun b => smallS.contains b
theorem ascii_of {s : List UInt8} (h : ascB s) : asciiB s = true := List.all_eq_true.2 fun x hx => decide_eq_true (h x hx)
theorem ContainsAny_g {s : List UInt8} (hs : ascB s) (hl : s.length ≤ 1000000) (R : Type) (k : Bool → Option R) : strings_ContainsAny s smallS k = k (anyS s) := by
 have e : ∀ k : Bool → Option R, strings_ContainsAny s smallS k = bif decide (s.length < 4294967281) && (decide (smallS.length < 4294967281) && (asciiB s && asciiB smallS)) then k (Lib.containsAny s smallS) else none := fun k => rfl
 rw [e, decide_eq_true (by omega), ascii_of hs, cany_any]
 rfl
theorem R_plain_g {s : List UInt8} (hl : s.length ≤ 1000000) (lo hi : Int) (R : Type) (k : Bool → Option R) : R_plain s lo hi k = k (inBx (s.length : Int) lo hi && (plainG s && anyS s)) := by
 have h1 : ∀ k : Bool → Option R, I_R_plain.R_in (s.length : Int) lo hi k = k (inBx (s.length : Int) lo hi) := fun k => R_in_g _ lo hi R k
 have h2 : ∀ k : List UInt8 → Option R, I_R_plain.strings_Trim s plainS k = k (Lib.trimS s plainS) := fun k => Trim_g hl (by decide) R k
 show R_plain_ I_R_plain s lo hi k = _
 unfold R_plain_
 rw [h1]
 cases inBx (s.length : Int) lo hi with
 | false => rfl
 | true =>
  rw [cond_true, h2, trim_all]
  show (bif plainG s then _ else _) = _
  cases hp : plainG s with
  | false => rfl
  | true =>
   have h3 : ∀ k : Bool → Option R, I_R_plain.strings_ContainsAny s smallS k = k (anyS s) := fun k => ContainsAny_g (plain_asc hp) hl R k
   rw [cond_true, h3]; rfl
def digD (s : List UInt8) : Int := lastAny s digS
def baseOk (s : List UInt8) : Bool := plainG s && (decide (s.length ≤ 10) && (inBx (digD s) 1 3 && (inBx ((s.length : Int) - 1 - digD s) 1 4 && anyS (s.take (digD s).toNat))))
def baseG (s : List UInt8) : Int := bif baseOk s then digD s else -1
theorem any_take {s : List UInt8} {n : Nat} (h : anyS (s.take n) = true) : anyS s = true := by
 obtain ⟨x, hx, hp⟩ := List.any_eq_true.1 h
 exact List.any_eq_true.2 ⟨x, List.mem_of_mem_take hx, hp⟩
theorem dig_in (s : List UInt8) : -1 ≤ digD s ∧ digD s < (s.length : Int) := lastAny_in digS s
theorem R_baseAt_g {s : List UInt8} (hs : ascB s) (hl : s.length ≤ 1000000) (R : Type) (k : Int → Option R) : R_baseAt s k = k (baseG s) := by
 have hd := dig_in s
 have h1 : ∀ k : Int → Option R, I_R_baseAt.strings_LastIndexAny s digS k = k (digD s) := fun k => LIA_g hs hl R k
 have h2 : ∀ k : Bool → Option R, I_R_baseAt.R_plain s 3 10 k = k (inBx (s.length : Int) 3 10 && (plainG s && anyS s)) := fun k => R_plain_g hl 3 10 R k
 have h3 : ∀ k : Bool → Option R, I_R_baseAt.R_in (digD s) 1 3 k = k (inBx (digD s) 1 3) := fun k => R_in_g _ 1 3 R k
 have hw : w64 (w64 ((s.length : Int) - 1) - digD s) = (s.length : Int) - 1 - digD s := by rw [w64_eq (x := (s.length : Int) - 1) (by omega) (by omega), w64_eq (by omega) (by omega)]
 have h4 : ∀ k : Bool → Option R, I_R_baseAt.R_in (w64 (w64 ((s.length : Int) - 1) - digD s)) 1 4 k = k (inBx ((s.length : Int) - 1 - digD s) 1 4) := fun k => by rw [hw]; exact R_in_g _ 1 4 R k
 have h5 : ∀ k : Bool → Option R, I_R_baseAt.strings_ContainsAny (s.take (digD s).toNat) smallS k = k (anyS (s.take (digD s).toNat)) := fun k => ContainsAny_g (fun x hx => hs x (List.mem_of_mem_take hx)) (by rw [List.length_take]; omega) R k
 show R_baseAt_ I_R_baseAt s k = _
 unfold R_baseAt_
 rw [h1, h2]
 unfold baseG baseOk
 cases hp : plainG s with
 | false => simp only [Bool.false_and, Bool.and_false, Bool.not_false, cond_true, cond_false]
 | true =>
  cases h10 : decide (s.length ≤ 10) with
  | false =>
   have h10' : inBx (s.length : Int) 3 10 = false := by
    unfold inBx
    have : ¬ s.length ≤ 10 := by simpa using h10
    rw [decide_eq_false (show ¬ (s.length : Int) ≤ 10 by omega), Bool.and_false]
   rw [h10']; rfl
  | true =>
   have h10' : s.length ≤ 10 := by simpa using h10
   cases hA : inBx (digD s) 1 3 with
   | false =>
    have : ∀ b : Bool, (bif !b then k (-1) else I_R_baseAt.R_in (digD s) 1 3 fun r4 => bif !r4 then k (-1) else I_R_baseAt.R_in (w64 (w64 ((s.length : Int) - 1) - digD s)) 1 4 fun r5 => bif !r5 then k (-1) else bif decide (0 ≤ digD s) && decide (digD s ≤ (s.length : Int)) then I_R_baseAt.strings_ContainsAny (s.take (digD s).toNat) smallS fun r6 => bif !r6 then k (-1) else k (digD s) else none) = k (-1) := fun b => by
     cases b with
     | false => rfl
     | true => rw [h3, hA]; rfl
    exact this _
   | true =>
    have hA' : 1 ≤ digD s ∧ digD s ≤ 3 := by simpa [inBx] using hA
    cases hB : inBx ((s.length : Int) - 1 - digD s) 1 4 with
    | false =>
     have : ∀ b : Bool, (bif !b then k (-1) else I_R_baseAt.R_in (digD s) 1 3 fun r4 => bif !r4 then k (-1) else I_R_baseAt.R_in (w64 (w64 ((s.length : Int) - 1) - digD s)) 1 4 fun r5 => bif !r5 then k (-1) else bif decide (0 ≤ digD s) && decide (digD s ≤ (s.length : Int)) then I_R_baseAt.strings_ContainsAny (s.take (digD s).toNat) smallS fun r6 => bif !r6 then k (-1) else k (digD s) else none) = k (-1) := fun b => by
      cases b with
      | false => rfl
      | true => rw [h3, hA, Bool.not_true, cond_false, h4, hB]; rfl
     exact this _
    | true =>
     have hB' : 1 ≤ (s.length : Int) - 1 - digD s ∧ (s.length : Int) - 1 - digD s ≤ 4 := by simpa [inBx] using hB
     have hL : inBx (s.length : Int) 3 10 = true := by
      unfold inBx
      rw [decide_eq_true (by omega), decide_eq_true (by omega)]; rfl
     have hg : (decide (0 ≤ digD s) && decide (digD s ≤ (s.length : Int))) = true := by simp; omega
     rw [hL]
     cases hC : anyS (s.take (digD s).toNat) with
     | false =>
      have : ∀ b : Bool, (bif !b then k (-1) else I_R_baseAt.R_in (digD s) 1 3 fun r4 => bif !r4 then k (-1) else I_R_baseAt.R_in (w64 (w64 ((s.length : Int) - 1) - digD s)) 1 4 fun r5 => bif !r5 then k (-1) else bif decide (0 ≤ digD s) && decide (digD s ≤ (s.length : Int)) then I_R_baseAt.strings_ContainsAny (s.take (digD s).toNat) smallS fun r6 => bif !r6 then k (-1) else k (digD s) else none) = k (-1) := fun b => by
       cases b with
       | false => rfl
       | true => rw [h3, hA, Bool.not_true, cond_false, h4, hB, Bool.not_true, cond_false, hg, cond_true, h5, hC]; rfl
      exact this _
     | true =>
      rw [any_take hC]
      show (I_R_baseAt.R_in (digD s) 1 3 fun r4 => bif !r4 then k (-1) else I_R_baseAt.R_in (w64 (w64 ((s.length : Int) - 1) - digD s)) 1 4 fun r5 => bif !r5 then k (-1) else bif decide (0 ≤ digD s) && decide (digD s ≤ (s.length : Int)) then I_R_baseAt.strings_ContainsAny (s.take (digD s).toNat) smallS fun r6 => bif !r6 then k (-1) else k (digD s) else none) = _
      rw [h3, hA, Bool.not_true, cond_false, h4, hB, Bool.not_true, cond_false, hg, cond_true, h5, hC]; rfl
def partsOf (s : List UInt8) : G_Parts := ⟨s, s.take (digD s + 1).toNat, s.drop (digD s + 1).toNat, 0, []⟩
def noParts : G_Parts := ⟨[], [], [], 0, []⟩
theorem baseOk_dig {s : List UInt8} (h : baseOk s = true) : 1 ≤ digD s ∧ digD s ≤ 3 := by
 unfold baseOk at h
 simp only [Bool.and_eq_true] at h
 simpa [inBx] using h.2.2.1
theorem call_based_g {s : List UInt8} (hl : s.length ≤ 1000000) (R : Type) (k : G_Parts → Bool → Option R) : call_based s k = bif baseOk s then k (partsOf s) true else k noParts false := by
 have hd := dig_in s
 have hsp : ∃ d : Int, (baseOk s = true → d = digD s) ∧ ∀ (k : Int → Bool → Option R), I_call_based.call_split s k = k d (baseOk s) := by
  have h1 : ∀ k : Int → Bool → Option R, I_call_split.call_isPlain s k = bif plainG s then k (letN s : Int) true else k 0 false := fun k => call_isPlain_g hl R k
  have unf : ∀ k : Int → Bool → Option R, I_call_based.call_split s k = call_split_ I_call_split s k := fun _ => rfl
  cases hp : plainG s with
  | false =>
   refine ⟨0, (fun h => by unfold baseOk at h; rw [hp] at h; cases h), fun k => ?_⟩
   rw [unf]
   unfold call_split_ baseOk
   rw [h1, hp]; rfl
  | true =>
   have h2 : ∀ k : Int → Option R, I_call_split.strings_LastIndexAny s digS k = k (digD s) := fun k => LIA_g (plain_asc hp) hl R k
   have h3 : ∀ k : Int → Bool → Option R, I_call_split.call_isPlain (s.take (digD s).toNat) k = k (letN (s.take (digD s).toNat) : Int) true := fun k => by
    have := call_isPlain_g (s := s.take (digD s).toNat) (by rw [List.length_take]; omega) R k
    refine this.trans ?_
    have hp2 : plainG (s.take (digD s).toNat) = true := List.all_eq_true.2 fun x hx => List.all_eq_true.1 hp x (List.mem_of_mem_take hx)
    rw [hp2]; rfl
   have hw : w64 (w64 ((s.length : Int) - digD s) - 1) = (s.length : Int) - 1 - digD s := by rw [w64_eq (x := (s.length : Int) - digD s) (by omega) (by omega), w64_eq (by omega) (by omega)]; omega
   by_cases hc : baseOk s = true
   ·have hc2 := hc
    unfold baseOk at hc2
    simp only [Bool.and_eq_true, decide_eq_true_eq] at hc2
    obtain ⟨_, q1, q2, q3, q4⟩ := hc2
    have q2' : 1 ≤ digD s ∧ digD s ≤ 3 := by simpa [inBx] using q2
    have q3' : 1 ≤ (s.length : Int) - 1 - digD s ∧ (s.length : Int) - 1 - digD s ≤ 4 := by simpa [inBx] using q3
    refine ⟨digD s, fun _ => rfl, fun k => ?_⟩
    rw [unf]
    unfold call_split_
    rw [h1, hp, cond_true, Bool.not_true, cond_false, decide_eq_false (show ¬ (s.length : Int) > 10 by omega), cond_false, h2, decide_eq_false (show ¬ digD s < 1 by omega), cond_false, decide_eq_false (show ¬ digD s > 3 by omega), cond_false, hw,
     decide_eq_false (show ¬ (s.length : Int) - 1 - digD s < 1 by omega), cond_false, decide_eq_false (show ¬ (s.length : Int) - 1 - digD s > 4 by omega), cond_false, show (decide (0 ≤ digD s) && decide (digD s ≤ (s.length : Int))) = true by simp; omega, cond_true, h3, letN_any]
    show k (digD s) (anyS (s.take (digD s).toNat)) = _
    rw [q4, hc]
   ·have hc' : baseOk s = false := by simpa using hc
    by_cases z1 : (s.length : Int) > 10
    ·refine ⟨0, fun h => absurd h hc, fun k => ?_⟩
     rw [unf]
     unfold call_split_
     rw [h1, hp, cond_true, Bool.not_true, cond_false, decide_eq_true z1, cond_true, hc']
    by_cases z2 : digD s < 1
    ·refine ⟨0, fun h => absurd h hc, fun k => ?_⟩
     rw [unf]
     unfold call_split_
     rw [h1, hp, cond_true, Bool.not_true, cond_false, decide_eq_false z1, cond_false, h2, decide_eq_true z2, cond_true, hc']
    by_cases z3 : digD s > 3
    ·refine ⟨0, fun h => absurd h hc, fun k => ?_⟩
     rw [unf]
     unfold call_split_
     rw [h1, hp, cond_true, Bool.not_true, cond_false, decide_eq_false z1, cond_false, h2, decide_eq_false z2, cond_false, decide_eq_true z3, cond_true, hc']
    by_cases z4 : (s.length : Int) - 1 - digD s < 1
    ·refine ⟨0, fun h => absurd h hc, fun k => ?_⟩
     rw [unf]
     unfold call_split_
     rw [h1, hp, cond_true, Bool.not_true, cond_false, decide_eq_false z1, cond_false, h2, decide_eq_false z2, cond_false, decide_eq_false z3, cond_false, hw, decide_eq_true z4, cond_true, hc']
    by_cases z5 : (s.length : Int) - 1 - digD s > 4
    ·refine ⟨0, fun h => absurd h hc, fun k => ?_⟩
     rw [unf]
     unfold call_split_
     rw [h1, hp, cond_true, Bool.not_true, cond_false, decide_eq_false z1, cond_false, h2, decide_eq_false z2, cond_false, decide_eq_false z3, cond_false, hw, decide_eq_false z4, cond_false, decide_eq_true z5, cond_true, hc']
    refine ⟨digD s, fun h => absurd h hc, fun k => ?_⟩
    rw [unf]
    unfold call_split_
    rw [h1, hp, cond_true, Bool.not_true, cond_false, decide_eq_false z1, cond_false, h2, decide_eq_false z2, cond_false, decide_eq_false z3, cond_false, hw, decide_eq_false z4, cond_false, decide_eq_false z5, cond_false, show (decide (0 ≤ digD s) && decide (digD s ≤ (s.length : Int))) = true by simp; omega, cond_true, h3, letN_any]
    show k (digD s) (anyS (s.take (digD s).toNat)) = _
    have : anyS (s.take (digD s).toNat) = false := by
     cases hq : anyS (s.take (digD s).toNat) with
     | false => rfl
     | true =>
      exfalso
      apply hc
      unfold baseOk
      rw [hp, hq, decide_eq_true (show s.length ≤ 10 by omega)]
      simp [inBx]; omega
    rw [this, hc']
 obtain ⟨d, h0, h⟩ := hsp
 show call_based_ I_call_based s k = _
 unfold call_based_
 rw [h]
 cases hb : baseOk s with
 | false => rfl
 | true =>
  obtain rfl := h0 hb
  have hd2 := baseOk_dig hb
  have hw : w64 (digD s + 1) = digD s + 1 := w64_eq (by omega) (by omega)
  have hg : (decide (0 ≤ digD s + 1) && decide (digD s + 1 ≤ (s.length : Int))) = true := by simp; omega
  rw [Bool.not_true, cond_false, hw, hg]
  rfl
theorem R_PartsOf_1_g {s : List UInt8} (hs : ascB s) (hl : s.length ≤ 1000000) (hb : baseOk s = true) (R : Type) (k : G_Parts → Option R) : R_PartsOf_1 s k = k (partsOf s) := by
 have h1 : ∀ k : Int → Option R, I_R_PartsOf_1.R_baseAt s k = k (baseG s) := fun k => R_baseAt_g hs hl R k
 have hd := dig_in s
 have hd2 := baseOk_dig hb
 have hbg : baseG s = digD s := by unfold baseG; rw [hb]; rfl
 have hw : w64 (digD s + 1) = digD s + 1 := w64_eq (by omega) (by omega)
 have hg : (decide (0 ≤ digD s + 1) && decide (digD s + 1 ≤ (s.length : Int))) = true := by simp; omega
 show R_PartsOf_1_ I_R_PartsOf_1 s k = _
 unfold R_PartsOf_1_
 rw [h1, hbg, hw, hg]
 rfl
theorem baseG_neg (s : List UInt8) : decide (baseG s < 0) = !baseOk s := by
 unfold baseG
 cases hb : baseOk s with
 | false => rfl
 | true =>
  have := baseOk_dig hb
  rw [cond_true, decide_eq_false (by omega)]; rfl
theorem baseG_pos (s : List UInt8) : decide (baseG s ≥ 0) = baseOk s := by
 unfold baseG
 cases hb : baseOk s with
 | false => rfl
 | true =>
  have := baseOk_dig hb
  rw [cond_true, decide_eq_true (by omega)]
def beginG (s : List UInt8) : Bool := decide (s.length ≤ 4) && (plainG s && anyS s)
theorem call_isBegin_g {s : List UInt8} (hl : s.length ≤ 1000000) (R : Type) (k : Bool → Option R) : call_isBegin s k = k (beginG s) := by
 have h1 : ∀ k : Int → Bool → Option R, I_call_isBegin.call_isPlain s k = bif plainG s then k (letN s : Int) true else k 0 false := fun k => call_isPlain_g hl R k
 show call_isBegin_ I_call_isBegin s k = _
 unfold call_isBegin_ beginG
 rw [h1]
 cases hp : plainG s with
 | false => simp
 | true =>
  rw [cond_true, cond_true, letN_any]
  show (bif anyS s then k (decide ((s.length : Int) ≤ 4)) else k false) = _
  have hd : decide ((s.length : Int) ≤ 4) = decide (s.length ≤ 4) := by
   by_cases h : s.length ≤ 4
   ·rw [decide_eq_true h, decide_eq_true (by omega)]
   ·rw [decide_eq_false h, decide_eq_false (by omega)]
  rw [hd]
  cases anyS s <;> cases decide (s.length ≤ 4) <;> rfl
theorem R_begin_g {s : List UInt8} (hl : s.length ≤ 1000000) (R : Type) (k : Bool → Option R) : R_begin s k = k (beginG s) := by
 have h1 : ∀ k : Bool → Option R, I_R_begin.R_plain s 1 4 k = k (inBx (s.length : Int) 1 4 && (plainG s && anyS s)) := fun k => R_plain_g hl 1 4 R k
 show I_R_begin.R_plain s 1 4 (fun r => k r) = _
 rw [h1]
 unfold beginG inBx
 congr 1
 cases ha : anyS s with
 | false => simp
 | true =>
  have hpos : 0 < s.length := by
   obtain ⟨x, hx, _⟩ := List.any_eq_true.1 ha
   exact List.length_pos_of_mem hx
  rw [decide_eq_true (show (1 : Int) ≤ (s.length : Int) by omega), Bool.true_and]
  by_cases h : s.length ≤ 4
  ·rw [decide_eq_true h, decide_eq_true (show (s.length : Int) ≤ 4 by omega)]
  ·rw [decide_eq_false h, decide_eq_false (show ¬ (s.length : Int) ≤ 4 by omega)]
def tailG (b : List UInt8) : Option (Int × List UInt8) :=
 if b == [112] then some (3, []) else if b == [109] then some (4, []) else if b == [109, 109] then some (5, []) else if b == [97, 109] then some (6, []) else
 bif (b.length == 1) && b.all (fun x => digS.contains x) then some (2, b) else bif beginG b then some (1, b) else none
theorem call_tail_g {b : List UInt8} (hl : b.length ≤ 1000000) (R : Type) (k : Int → List UInt8 → Bool → Option R) : ∃ n a, call_tail b k = k ((tailG b).elim n (·.1)) ((tailG b).elim a (·.2)) (tailG b).isSome := by
 have h1 : ∀ k : Bool → Option R, I_call_tail.call_isBegin b k = k (beginG b) := fun k => call_isBegin_g hl R k
 refine ⟨1, b, ?_⟩
 show call_tail_ I_call_tail b k = _
 unfold call_tail_ tailG
 cases b == [112] with
 | true => rfl
 | false =>
  cases b == [109] with
  | true => rfl
  | false =>
   cases b == [109, 109] with
   | true => rfl
   | false =>
    cases b == [97, 109] with
    | true => rfl
    | false =>
     simp only [cond_false, Bool.false_eq_true, if_false]
     cases h2 : (b.length : Int) == 1 with
     | false =>
      have : (b.length == 1) = false := by
       rw [beq_eq_false_iff_ne] at h2 ⊢
       omega
      rw [this, cond_false, h1]
      cases beginG b <;> rfl
     | true =>
      have h3 : (b.length == 1) = true := by
       rw [beq_iff_eq] at h2 ⊢
       omega
      obtain ⟨x, rfl⟩ : ∃ x, b = [x] := by
       match b, beq_iff_eq.1 h3 with
       | [x], _ => exact ⟨x, rfl⟩
      have hx : x.toNat < 256 := x.toNat_lt
      have hs : digS.contains x = (bif decide ((x.toNat : Int) ≥ 48) then decide ((x.toNat : Int) ≤ 57) else false) := by
       have : ∀ x : Fin 256, digS.contains (UInt8.ofNat x) = (bif decide (((UInt8.ofNat x).toNat : Int) ≥ 48) then decide (((UInt8.ofNat x).toNat : Int) ≤ 57) else false) := by decide +kernel
       have := this ⟨x.toNat, hx⟩
       simpa using this
      have l2 : ∀ k : Bool → Option R, I_call_tail.call_isDigit (x.toNat : Int) k = k (digS.contains x) := fun k => by
       show (bif decide ((x.toNat : Int) ≥ 48) then k (decide ((x.toNat : Int) ≤ 57)) else k false) = _
       rw [hs]
       cases decide ((x.toNat : Int) ≥ 48) <;> rfl
      have ha : ∀ k : UInt8 → Option R, at_ [x] 0 k = k x := fun k => at_nat (i := 0) rfl k
      rw [cond_true, ha, l2, h1, h3]
      have e : ([x].all fun x => digS.contains x) = digS.contains x := by simp
      rw [e]
      cases digS.contains x with
      | true => rfl
      | false => cases beginG [x] <;> rfl
end Go.Am
set_option linter.unusedVariables false
set_option linter.unusedSectionVars false
set_option linter.unusedSimpArgs false
set_option maxRecDepth 100000
namespace Go.Am
open Go Go.Proofs
variable [Fuel]
theorem litecut_g {s : List UInt8} (c : UInt8) (hl : s.length ≤ 1000000) (R : Type) (k : List UInt8 → List UInt8 → Bool → Option R) : stringslite_Cut s [c] k = k (cutB c s).1 (cutB c s).2.1 (cutB c s).2.2 := by
 have h1 : ∀ k : Int → Option R, I_stringslite_Cut.stringslite_Index s [c] k = k (Lib.indexByte s c) := fun k => rfl
 show stringslite_Cut_ I_stringslite_Cut s [c] k = _
 unfold stringslite_Cut_
 rw [h1, ixb_pos]
 cases h : s.contains c with
 | false => rw [cutB_none c s h]; rfl
 | true =>
  obtain ⟨i, e1, e2, e3, e4⟩ := ixb_some c s h
  rw [cutB_some c s i e3 e4, e1, cond_true]
  have hw : w64 ((i : Int) + ((([c] : List UInt8).length : Nat) : Int)) = ((i + 1 : Nat) : Int) := w64_succ (show i < 4611686018427387904 by omega)
  have g1 : (true && decide ((i : Int) ≤ (s.length : Int))) = true := by simp; omega
  have g2 : (decide (0 ≤ ((i + 1 : Nat) : Int)) && decide (((i + 1 : Nat) : Int) ≤ (s.length : Int))) = true := by simp; omega
  rw [g1, cond_true, hw, g2, cond_true]
  rfl
theorem Cut_g {s : List UInt8} (c : UInt8) (hl : s.length ≤ 1000000) (R : Type) (k : List UInt8 → List UInt8 → Bool → Option R) : strings_Cut s [c] k = k (cutB c s).1 (cutB c s).2.1 (cutB c s).2.2 := litecut_g c hl R k
def withKind (p : G_Parts) (n : Int) (a : List UInt8) : G_Parts := ⟨p.f_Base, p.f_Prefix, p.f_Suffix, n, a⟩
def partsG (s : List UInt8) : Option G_Parts :=
 if s.length > 14 then none else
 bif !(cutB 47 s).2.2 then (bif baseOk s then some (partsOf s) else none) else
 bif baseOk (cutB 47 s).2.1 && beginG (cutB 47 s).1 then some (withKind (partsOf (cutB 47 s).2.1) 1 (cutB 47 s).1) else
 bif baseOk (cutB 47 s).1 then (tailG (cutB 47 s).2.1).map fun t => withKind (partsOf (cutB 47 s).1) t.1 t.2 else none
theorem cut_has (c : UInt8) (s : List UInt8) : (cutB c s).2.2 = s.contains c := by
 cases h : s.contains c with
 | false => rw [cutB_none c s h]
 | true =>
  obtain ⟨i, e1, e2, e3, e4⟩ := ixb_some c s h
  rw [cutB_some c s i e3 e4]
theorem slash_plain {s : List UInt8} (h : (cutB 47 s).2.2 = true) : baseOk s = false := by
 rw [cut_has] at h
 cases hb : baseOk s with
 | false => rfl
 | true =>
  exfalso
  unfold baseOk at hb
  simp only [Bool.and_eq_true] at hb
  have := List.all_eq_true.1 hb.1 47 (by simpa using h)
  revert this
  decide
theorem call_Parts_g {s : List UInt8} (hl : s.length ≤ 1000000) (R : Type) (k : G_Parts → Bool → Option R) : call_Parts s k = (partsG s).elim (k noParts false) fun p => k p true := by
 have hcl := (cutB_len 47 s).1
 have h1 : ∀ k : G_Parts → Bool → Option R, I_call_Parts.call_based s k = bif baseOk s then k (partsOf s) true else k noParts false := fun k => call_based_g hl R k
 have h2 : ∀ k : List UInt8 → List UInt8 → Bool → Option R, I_call_Parts.strings_Cut s [47] k = k (cutB 47 s).1 (cutB 47 s).2.1 (cutB 47 s).2.2 := fun k => Cut_g 47 hl R k
 have h3 : ∀ k : G_Parts → Bool → Option R, I_call_Parts.call_based (cutB 47 s).2.1 k = bif baseOk (cutB 47 s).2.1 then k (partsOf (cutB 47 s).2.1) true else k noParts false := fun k => call_based_g (by omega) R k
 have h4 : ∀ k : G_Parts → Bool → Option R, I_call_Parts.call_based (cutB 47 s).1 k = bif baseOk (cutB 47 s).1 then k (partsOf (cutB 47 s).1) true else k noParts false := fun k => call_based_g (by omega) R k
 have h5 : ∀ k : Bool → Option R, I_call_Parts.call_isBegin (cutB 47 s).1 k = k (beginG (cutB 47 s).1) := fun k => call_isBegin_g (by omega) R k
 show call_Parts_ I_call_Parts s k = _
 unfold call_Parts_ partsG
 by_cases h14 : s.length > 14
 ·rw [decide_eq_true (show (s.length : Int) > 14 by omega), if_pos h14]; rfl
 rw [decide_eq_false (show ¬ (s.length : Int) > 14 by omega), if_neg h14, cond_false, h1]
 cases hc : (cutB 47 s).2.2 with
 | false =>
  rw [Bool.not_false, cond_true]
  cases baseOk s with
  | true => rfl
  | false =>
   rw [cond_false, h2, hc]; rfl
 | true =>
  rw [slash_plain hc, cond_false, cond_false, h2, hc, Bool.not_true, cond_false, cond_false, h3]
  have key : (I_call_Parts.call_based (cutB 47 s).1 fun r10 r11 => I_call_Parts.call_tail (cutB 47 s).2.1 fun r12 r13 r14 => bif !r11 then k noParts false else bif !r14 then k noParts false else k ⟨r10.f_Base, r10.f_Prefix, r10.f_Suffix, r12, r13⟩ true) =
    ((bif baseOk (cutB 47 s).1 then (tailG (cutB 47 s).2.1).map fun t => withKind (partsOf (cutB 47 s).1) t.1 t.2 else none) : Option G_Parts).elim (k noParts false) fun p => k p true := by
   rw [h4]
   have ht : ∀ k : Int → List UInt8 → Bool → Option R, ∃ n a, I_call_Parts.call_tail (cutB 47 s).2.1 k = k ((tailG (cutB 47 s).2.1).elim n (·.1)) ((tailG (cutB 47 s).2.1).elim a (·.2)) (tailG (cutB 47 s).2.1).isSome := fun k => call_tail_g (by omega) R k
   cases baseOk (cutB 47 s).1 with
   | false =>
    rw [cond_false, cond_false]
    obtain ⟨n, a, e⟩ := ht (fun r12 r13 r14 => bif !false then k noParts false else bif !r14 then k noParts false else k ⟨noParts.f_Base, noParts.f_Prefix, noParts.f_Suffix, r12, r13⟩ true)
    rw [e]; rfl
   | true =>
    rw [cond_true, cond_true]
    obtain ⟨n, a, e⟩ := ht (fun r12 r13 r14 => bif !true then k noParts false else bif !r14 then k noParts false else k ⟨(partsOf (cutB 47 s).1).f_Base, (partsOf (cutB 47 s).1).f_Prefix, (partsOf (cutB 47 s).1).f_Suffix, r12, r13⟩ true)
    rw [e]
    cases tailG (cutB 47 s).2.1 <;> rfl
  cases hb : baseOk (cutB 47 s).2.1 with
  | false =>
   rw [cond_false, cond_false, Bool.false_and, cond_false]
   exact key
  | true =>
   rw [cond_true, cond_true, h5, Bool.true_and]
   cases beginG (cutB 47 s).1 with
   | false => exact key
   | true => rfl
theorem R_PartsOf_g {s : List UInt8} (hs : ascB s) (hl : s.length ≤ 1000000) (R : Type) (k : G_Parts → Bool → Option R) : R_PartsOf s k = (partsG s).elim (k noParts false) fun p => k p true := by
 have hcl := (cutB_len 47 s).1
 have hcm := cutB_mem 47 s
 have sa : ascB (cutB 47 s).1 := fun x hx => hs x (hcm.1 x hx)
 have sb : ascB (cutB 47 s).2.1 := fun x hx => hs x (hcm.2 x hx)
 have h2 : ∀ k : List UInt8 → List UInt8 → Bool → Option R, I_R_PartsOf.strings_Cut s [47] k = k (cutB 47 s).1 (cutB 47 s).2.1 (cutB 47 s).2.2 := fun k => Cut_g 47 hl R k
 have h3 : ∀ k : Int → Option R, I_R_PartsOf.R_baseAt (cutB 47 s).2.1 k = k (baseG (cutB 47 s).2.1) := fun k => R_baseAt_g sb (by omega) R k
 have h4 : ∀ k : Int → Option R, I_R_PartsOf.R_baseAt (cutB 47 s).1 k = k (baseG (cutB 47 s).1) := fun k => R_baseAt_g sa (by omega) R k
 have h5 : ∀ k : Bool → Option R, I_R_PartsOf.R_begin (cutB 47 s).1 k = k (beginG (cutB 47 s).1) := fun k => R_begin_g (by omega) R k
 have h6 : ∀ k : Bool → Option R, I_R_PartsOf.R_begin (cutB 47 s).2.1 k = k (beginG (cutB 47 s).2.1) := fun k => R_begin_g (by omega) R k
 show R_PartsOf_ I_R_PartsOf s k = _
 unfold R_PartsOf_ partsG
 rw [h2]
 by_cases h14 : s.length > 14
 ·rw [decide_eq_true (show (s.length : Int) > 14 by omega), if_pos h14]; rfl
 rw [decide_eq_false (show ¬ (s.length : Int) > 14 by omega), if_neg h14, cond_false]
 cases hc : (cutB 47 s).2.2 with
 | false =>
  have he : (cutB 47 s).1 = s := by rw [cut_has] at hc; rw [cutB_none 47 s hc]
  rw [Bool.not_false, cond_true, cond_true, h4, he, baseG_neg]
  cases hb : baseOk s with
  | false => rfl
  | true =>
   have h7 : ∀ k : G_Parts → Option R, I_R_PartsOf.R_PartsOf_1 s k = k (partsOf s) := fun k => R_PartsOf_1_g hs hl hb R k
   rw [Bool.not_true, cond_false, h7]; rfl
 | true =>
  rw [Bool.not_true, cond_false, cond_false, h3, baseG_pos]
  generalize hkey : ((bif baseOk (cutB 47 s).1 then (tailG (cutB 47 s).2.1).map fun t => withKind (partsOf (cutB 47 s).1) t.1 t.2 else none) : Option G_Parts) = res
  have key : ∀ g : C_R_PartsOf, g = I_R_PartsOf → (g.R_baseAt (cutB 47 s).1 fun r15 => bif decide (r15 < 0) then k noParts false else g.R_PartsOf_1 (cutB 47 s).1 fun r16 => bif (cutB 47 s).2.1 == [112] then k ⟨r16.f_Base, r16.f_Prefix, r16.f_Suffix, 3, r16.f_Added⟩ true else bif (cutB 47 s).2.1 == [109] then k ⟨r16.f_Base, r16.f_Prefix, r16.f_Suffix, 4, r16.f_Added⟩ true else
    bif (cutB 47 s).2.1 == [109, 109] then k ⟨r16.f_Base, r16.f_Prefix, r16.f_Suffix, 5, r16.f_Added⟩ true else bif (cutB 47 s).2.1 == [97, 109] then k ⟨r16.f_Base, r16.f_Prefix, r16.f_Suffix, 6, r16.f_Added⟩ true else
    bif (((cutB 47 s).2.1.length : Int) == 1) then (g.strings_Contains digS (cutB 47 s).2.1 fun r12 => bif r12 then k ⟨r16.f_Base, r16.f_Prefix, r16.f_Suffix, 2, (cutB 47 s).2.1⟩ true else g.R_begin (cutB 47 s).2.1 fun r13 => bif r13 then k ⟨r16.f_Base, r16.f_Prefix, r16.f_Suffix, 1, (cutB 47 s).2.1⟩ true else k noParts false) else
    (g.R_begin (cutB 47 s).2.1 fun r14 => bif r14 then k ⟨r16.f_Base, r16.f_Prefix, r16.f_Suffix, 1, (cutB 47 s).2.1⟩ true else k noParts false)) = res.elim (k noParts false) fun p => k p true := by
   rintro g rfl
   subst hkey
   rw [h4, baseG_neg]
   cases hb : baseOk (cutB 47 s).1 with
   | false => rfl
   | true =>
    have h7 : ∀ k : G_Parts → Option R, I_R_PartsOf.R_PartsOf_1 (cutB 47 s).1 k = k (partsOf (cutB 47 s).1) := fun k => R_PartsOf_1_g sa (by omega) hb R k
    rw [Bool.not_true, cond_false, h7, cond_true]
    generalize hB : (cutB 47 s).2.1 = b at h6
    unfold tailG
    cases b == [112] with
    | true => rfl
    | false =>
     cases b == [109] with
     | true => rfl
     | false =>
      cases b == [109, 109] with
      | true => rfl
      | false =>
       cases b == [97, 109] with
       | true => rfl
       | false =>
        simp only [cond_false, Bool.false_eq_true, if_false]
        cases h8 : (b.length : Int) == 1 with
        | false =>
         have : (b.length == 1) = false := by
          rw [beq_eq_false_iff_ne] at h8 ⊢
          omega
         rw [this, cond_false, h6]
         cases beginG b <;> rfl
        | true =>
         have h9 : (b.length == 1) = true := by
          rw [beq_iff_eq] at h8 ⊢
          omega
         obtain ⟨x, rfl⟩ : ∃ x, b = [x] := by
          match b, beq_iff_eq.1 h9 with
          | [x], _ => exact ⟨x, rfl⟩
         have hct : ∀ k : Bool → Option R, I_R_PartsOf.strings_Contains digS [x] k = k (digS.contains x) := fun k => by
          show k (decide (Lib.indexByte digS x ≥ 0)) = _
          rw [ixb_pos]
         rw [cond_true, hct, h6, h9]
         have e : ([x].all fun x => digS.contains x) = digS.contains x := by simp
         rw [e]
         cases digS.contains x with
         | true => rfl
         | false => cases beginG [x] <;> rfl
  cases hb : baseOk (cutB 47 s).2.1 with
  | false =>
   rw [cond_false, Bool.false_and, cond_false]
   exact key _ rfl
  | true =>
   have h7 : ∀ k : G_Parts → Option R, I_R_PartsOf.R_PartsOf_1 (cutB 47 s).2.1 k = k (partsOf (cutB 47 s).2.1) := fun k => R_PartsOf_1_g sb (by omega) hb R k
   rw [cond_true, h5, Bool.true_and]
   cases beginG (cutB 47 s).1 with
   | false => exact key _ rfl
   | true => rw [cond_true, cond_true, h7]; rfl
def callG (s : List UInt8) : Bool := (partsG s).isSome
theorem call_Is_g {s : List UInt8} (hl : s.length ≤ 1000000) (R : Type) (k : Bool → Option R) : call_Is s k = k (callG s) := by
 have h1 : ∀ k : G_Parts → Bool → Option R, I_call_Is.call_Parts s k = (partsG s).elim (k noParts false) fun p => k p true := fun k => call_Parts_g hl R k
 show I_call_Is.call_Parts s (fun r2 r3 => k r3) = _
 rw [h1]
 unfold callG
 cases partsG s <;> rfl
theorem Q_Call_g {s : List UInt8} (hs : ascB s) (hl : s.length ≤ 1000000) (R : Type) (k : Bool → Option R) : Q_Call s k = k (callG s) := by
 have h1 : ∀ k : G_Parts → Bool → Option R, I_Q_Call.R_PartsOf s k = (partsG s).elim (k noParts false) fun p => k p true := fun k => R_PartsOf_g hs hl R k
 show I_Q_Call.R_PartsOf s (fun r2 r3 => k r3) = _
 rw [h1]
 unfold callG
 cases partsG s <;> rfl
end Go.Am
