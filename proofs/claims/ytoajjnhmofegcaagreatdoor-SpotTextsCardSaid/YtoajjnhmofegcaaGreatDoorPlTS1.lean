/- The plain law, in Lean alone: TS1, TS2. No condition: lemmas for the claim. -/
import Derived.Test.YtoajjnhmofegcaaGreatDoorPlT6
import Derived.Test.YtoajjnhmofegcaaGreatDoorPlZ1
import Derived.Test.YtoajjnhmofegcaaGreatDoorPlR4
set_option linter.unusedVariables false
set_option linter.unusedSectionVars false
set_option linter.unusedSimpArgs false
set_option maxRecDepth 100000
namespace Go.Am
open Go Go.Proofs
variable [Fuel]
structure FineSW (c : G_Spot) : Prop where
 call : c.f_Call.length ≤ 1000000
 calla : ascB c.f_Call
 by1 : c.f_By.length ≤ 1000000
 bya : ascB c.f_By
theorem band_CheckSpots_loopW (d : List G_Spot) (hf : ∀ c ∈ d, FineSW c) (hl : d.length ≤ 1000000) : ∀ (xs : List G_Spot) (n i : Nat) (p : Option G_Spot), d.drop i = xs → PrevAt d i p → xs.length < n → ∀ (R : Type) (k : Int → Option R),
  band_CheckSpots_L4 I_band_CheckSpots n d d (d.length : Int) (i : Int) k (k 0) = k (faultSs p xs)
 | _, 0, _, _, _, _, h, _, _ => by omega
 | [], n + 1, i, p, h, _, _, _, _ => by rw [band_CheckSpots_L4, ge_drop h]; rfl
 | c :: cs, n + 1, i, p, h, hp, hn, R, k => by
  have h' := drop_cons h
  have ih := band_CheckSpots_loopW d hf hl cs n (i + 1) (some c) h'.2.2.1 (prevAt_next h) (Nat.lt_of_succ_lt_succ (by simpa only [List.length_cons] using hn)) R k
  have hc := hf c (mem_drop h)
  rw [band_CheckSpots_L4, lt_drop h]
  simp only [I_band_CheckSpots] at ih
  simp only [cond_true, get_drop h, I_band_CheckSpots, kit_IsMoment_is, kit_Outside_is, call_Is_W hc.call, call_Is_W hc.by1, band_compareSpots_is, faultSs, chkS, w64_succ (show i < 4611686018427387904 by omega), ih]
  cases momB c.f_At <;> cases inB c.f_Hertz 0 30000000000 <;> cases callB c.f_Call <;> cases callB c.f_By <;> try rfl
  cases p with
  | none => rw [decide_eq_false (show ¬ ((i : Int) > 0) by unfold PrevAt at hp; omega)]; rfl
  | some q =>
   obtain ⟨h0, ys, hq⟩ := hp
   rw [decide_eq_true (show ((i : Int) > 0) by omega), prev_drop hq h0 (by omega)]
   simp only [Bool.not_true, cond_false, cond_true, bne_self_eq_false]
   cases decide (cmpSp q c ≥ 0) <;> rfl
theorem Q_SpotsFault_loopW (d : List G_Spot) (hf : ∀ c ∈ d, FineSW c) (hl : d.length ≤ 1000000) : ∀ (xs : List G_Spot) (n i : Nat) (p : Option G_Spot), d.drop i = xs → PrevAt d i p → xs.length < n → ∀ (R : Type) (k : Int → Option R),
  Q_SpotsFault_L4 I_Q_SpotsFault n d d (d.length : Int) (i : Int) k (k 0) = k (faultSs p xs)
 | _, 0, _, _, _, _, h, _, _ => by omega
 | [], n + 1, i, p, h, _, _, _, _ => by rw [Q_SpotsFault_L4, ge_drop h]; rfl
 | c :: cs, n + 1, i, p, h, hp, hn, R, k => by
  have h' := drop_cons h
  have ih := Q_SpotsFault_loopW d hf hl cs n (i + 1) (some c) h'.2.2.1 (prevAt_next h) (Nat.lt_of_succ_lt_succ (by simpa only [List.length_cons] using hn)) R k
  have hc := hf c (mem_drop h)
  rw [Q_SpotsFault_L4, lt_drop h]
  simp only [I_Q_SpotsFault] at ih
  simp only [cond_true, get_drop h, I_Q_SpotsFault, Q_Moment_is, Q_in_is, Q_Call_W hc.calla hc.call, Q_Call_W hc.bya hc.by1, Q_SpotOrder_is, faultSs, chkS, w64_succ (show i < 4611686018427387904 by omega), ih]
  cases momB c.f_At <;> cases inB c.f_Hertz 0 30000000000 <;> cases callB c.f_Call <;> cases callB c.f_By <;> try rfl
  cases p with
  | none => rw [decide_eq_false (show ¬ ((i : Int) > 0) by unfold PrevAt at hp; omega)]; rfl
  | some q =>
   obtain ⟨h0, ys, hq⟩ := hp
   rw [decide_eq_true (show ((i : Int) > 0) by omega), prev_drop hq h0 (by omega)]
   simp only [Bool.not_true, cond_false, cond_true, bne_self_eq_false]
   cases decide (cmpSp q c ≥ 0) <;> rfl
theorem band_CheckSpots_W {d : List G_Spot} (hf : ∀ c ∈ d, FineSW c) (hl : d.length ≤ 1000000) (R : Type) (k : Int → Option R) : band_CheckSpots d k = k (faultS d) := by
 have h : band_CheckSpots_L4 I_band_CheckSpots I_band_CheckSpots.N d d (d.length : Int) 0 k (k 0) = k (faultSs none d) := band_CheckSpots_loopW d hf hl d I_band_CheckSpots.N 0 none rfl rfl (show d.length < NN by have := NN_ok; omega) R k
 simp only [band_CheckSpots, band_CheckSpots_, faultS, h]
 cases decide ((d.length : Int) > 2000) <;> rfl
theorem Q_SpotsFault_W {d : List G_Spot} (hf : ∀ c ∈ d, FineSW c) (hl : d.length ≤ 1000000) (R : Type) (k : Int → Option R) : Q_SpotsFault d k = k (faultS d) := by
 have h : Q_SpotsFault_L4 I_Q_SpotsFault I_Q_SpotsFault.N d d (d.length : Int) 0 k (k 0) = k (faultSs none d) := Q_SpotsFault_loopW d hf hl d I_Q_SpotsFault.N 0 none rfl rfl (show d.length < NN by have := NN_ok; omega) R k
 simp only [Q_SpotsFault, Q_SpotsFault_, faultS, h]
 cases decide ((d.length : Int) > 2000) <;> rfl
def noSpot : G_Spot := ⟨0, 0, [], []⟩
def spotQ : List (List UInt8) → G_Spot
 | [w0, w1, w2, w3] => ⟨numQ w0, numQ w1, w2, w3⟩
 | _ => noSpot
def spotB : List (List UInt8) → Bool
 | [w0, w1, _, _] => [w0, w1].all numB
 | _ => false
theorem fourS {ws : List (List UInt8)} : (((ws.length : Int) != 4) = true ∧ spotB ws = false) ∨ ∃ w0 w1 w2 w3, ws = [w0, w1, w2, w3] := by
 match ws with
 | [w0, w1, w2, w3] => exact .inr ⟨w0, w1, w2, w3, rfl⟩
 | [] => exact .inl ⟨rfl, rfl⟩
 | [_] => exact .inl ⟨rfl, rfl⟩
 | [_, _] => exact .inl ⟨rfl, rfl⟩
 | [_, _, _] => exact .inl ⟨rfl, rfl⟩
 | _ :: _ :: _ :: _ :: _ :: l => exact .inl ⟨by rw [bne_iff_ne]; simp only [List.length_cons]; omega, rfl⟩
def lineS (l : List UInt8) : Option G_Spot := if wordsOk l && spotB (splitG 32 l) then some (spotQ (splitG 32 l)) else none
theorem lineS_is {l : List UInt8} {c : G_Spot} (h : lineS l = some c) : c = spotQ (splitG 32 l) := by
 unfold lineS at h
 split at h
 ·exact (Option.some.inj h).symm
 ·cases h
def accS (l : List UInt8) (acc : List G_Spot) : List G_Spot := if wordsOk l && !((((splitG 32 l).length : Nat) : Int) != 4) then acc ++ [spotQ (splitG 32 l)] else acc
theorem two_len {w0 w1 : List UInt8} {ws : List (List UInt8)} (hd : ∀ w ∈ w0 :: w1 :: ws, w.length ≤ 1000000) : ∀ w ∈ [w0, w1], w.length ≤ 1000000 := fun w hw => by
 simp only [List.mem_cons, List.not_mem_nil, or_false] at hw
 rcases hw with rfl | rfl <;> exact hd _ (by simp)
theorem Q_SpotsRead_1_g {l : List UInt8} {acc : List G_Spot} (hl : l.length ≤ 900000) (ha : acc.length ≤ 1000000) (R : Type) (k : Bool → List G_Spot → Option R) : Q_SpotsRead_1_ba1 l acc k = k (lineS l).isSome (accS l acc) := by
 have w1 : ∀ k : List (List UInt8) → Bool → Option R, I_Q_SpotsRead_1_ba1.Q_Words l k = k (splitG 32 l) (wordsOk l) := fun k => Q_Words_g hl R k
 have hd := words_len (l := l) (by omega)
 show Q_SpotsRead_1_ba1_ I_Q_SpotsRead_1_ba1 l acc k = _
 unfold Q_SpotsRead_1_ba1_ lineS accS
 rw [w1]
 cases wordsOk l with
 | false => rfl
 | true =>
  rw [Bool.not_true, cond_false, Bool.true_and, Bool.true_and]
  generalize splitG 32 l = ws at hd
  rcases fourS (ws := ws) with ⟨h1, h2⟩ | ⟨w0, w1, w2, w3, rfl⟩
  ·rw [h1, h2]; rfl
  ·have n3 : ∀ k : List Int → Bool → Option R, I_Q_SpotsRead_1_ba1.Q_NumbersIn [w0, w1] 15 k = k [numQ w0, numQ w1] ([w0, w1].all numB) := fun k => Q_NumbersIn_g (two_len hd) (by simp) R k
   have hlen : ((([w0, w1, w2, w3].length : Nat) : Int) != 4) = false := rfl
   have htk : (decide ((0 : Nat) ≤ 2) && decide ((2 : Int) ≤ (([w0, w1, w2, w3].length : Nat) : Int))) = true := rfl
   have htw : [w0, w1, w2, w3].take ((2 : Int)).toNat = [w0, w1] := rfl
   have i0 : ∀ X : Option R, inr [numQ w0, numQ w1] 0 X = X := fun _ => rfl
   have i1 : ∀ X : Option R, inr [numQ w0, numQ w1] 1 X = X := fun _ => rfl
   have i2 : ∀ X : Option R, inr [w0, w1, w2, w3] 2 X = X := fun _ => rfl
   have i3 : ∀ X : Option R, inr [w0, w1, w2, w3] 3 X = X := fun _ => rfl
   have a0 : ∀ k : Int → Option R, at_ [numQ w0, numQ w1] 0 k = k (numQ w0) := fun _ => rfl
   have a1 : ∀ k : Int → Option R, at_ [numQ w0, numQ w1] 1 k = k (numQ w1) := fun _ => rfl
   have a2 : ∀ k : List UInt8 → Option R, at_ [w0, w1, w2, w3] 2 k = k w2 := fun _ => rfl
   have a3 : ∀ k : List UInt8 → Option R, at_ [w0, w1, w2, w3] 3 k = k w3 := fun _ => rfl
   have eB : spotB [w0, w1, w2, w3] = [w0, w1].all numB := rfl
   have eQ : spotQ [w0, w1, w2, w3] = ⟨numQ w0, numQ w1, w2, w3⟩ := rfl
   rw [hlen, cond_false, htk, cond_true, htw, n3, i0, a0, i1, a1, i2, a2, i3, a3, room1 acc _ 48 (by omega) (by omega), cond_true, eB, eQ, Bool.not_false, if_pos rfl]
   cases [w0, w1].all numB <;> rfl
theorem accS_some {l : List UInt8} {c : G_Spot} (h : lineS l = some c) (acc : List G_Spot) : accS l acc = acc ++ [c] := by
 have hc := lineS_is h
 unfold lineS at h
 unfold accS
 cases hw : wordsOk l with
 | false => rw [hw] at h; cases h
 | true =>
  rw [hw, Bool.true_and] at h
  rcases fourS (ws := splitG 32 l) with ⟨h1, h2⟩ | ⟨w0, w1, w2, w3, e⟩
  ·rw [h2] at h; cases h
  ·rw [hc, e]; rfl
theorem band_Read_loop (d : List (List UInt8)) (ended : Bool) (hd : ∀ l ∈ d, l.length ≤ 900000) (hl : d.length ≤ 900000) : ∀ (xs : List (List UInt8)) (n i : Nat) (acc : List G_Spot), d.drop i = xs → xs.length < n → acc.length ≤ i → ∀ (R : Type) (e0 : Int → Int → Option R) (e1 : List G_Spot → Option R),
  band_Read_L6 I_band_Read n ended (d.length : Int) (i : Int) d acc (fun a b _ => e0 a b) e1 = match goG lineS ended i xs acc with | .inl j => e0 (j : Int) 9 | .inr a => e1 a
 | _, 0, _, _, _, h, _, _, _, _ => by omega
 | [], n + 1, i, acc, h, _, _, R, e0, e1 => by rw [band_Read_L6, ge_drop h]; rfl
 | l :: ls, n + 1, i, acc, h, hn, ha, R, e0, e1 => by
  have h' := drop_cons h
  have hlt := h'.2.1
  have hll := hd l (mem_drop h)
  have hwl := words_len (l := l) (by omega)
  have ih := fun c hc => band_Read_loop d ended hd hl ls n (i + 1) (acc ++ [c]) h'.2.2.1 (Nat.lt_of_succ_lt_succ (by simpa only [List.length_cons] using hn)) hc R e0 e1
  have w1 : ∀ k : List (List UInt8) → Bool → Option R, I_band_Read.kit_Words l k = bif wordsOk l then k (splitG 32 l) true else k [] false := fun k => kit_Words_g hll R k
  have hlast : ((i : Int) == w64 ((d.length : Int) - 1)) = (ls == []) := by
   rw [w64_pred (by omega) (by omega)]
   have e := h'.2.2.2
   cases ls with
   | nil => rw [List.length_nil] at e; rw [show d.length - 1 = i by omega]; simp
   | cons a b =>
    rw [List.length_cons] at e
    have : ((i : Int) == ((d.length - 1 : Nat) : Int)) = false := beq_eq_false_iff_ne.2 (by omega)
    rw [this]; rfl
  rw [band_Read_L6, lt_drop h, cond_true, inr_drop h, at_nat h'.1, w1, goG_cons]
  unfold lineS
  cases wordsOk l with
  | false =>
   rw [cond_false, Bool.not_false, cond_true, Bool.false_and]
   cases !ended && ls == [] <;> rfl
  | true =>
   rw [cond_true, Bool.not_true, cond_false, hlast, Bool.true_and]
   generalize splitG 32 l = ws at hwl
   rcases fourS (ws := ws) with ⟨h1, h2⟩ | ⟨w0, w1, w2, w3, rfl⟩
   ·rw [h1, h2, cond_true]
    cases !ended && ls == [] <;> rfl
   ·have n3 : ∀ k : List Int → Bool → Option R, I_band_Read.kit_Numbers [w0, w1] k = bif [w0, w1].all numB then k [numQ w0, numQ w1] true else k [] false := fun k => kit_Numbers_g (two_len hwl) (by simp) R k
    have hlen : ((([w0, w1, w2, w3].length : Nat) : Int) != 4) = false := rfl
    have htk : (decide ((0 : Nat) ≤ 2) && decide ((2 : Int) ≤ (([w0, w1, w2, w3].length : Nat) : Int))) = true := rfl
    have htw : [w0, w1, w2, w3].take ((2 : Int)).toNat = [w0, w1] := rfl
    have i0 : ∀ X : Option R, inr [numQ w0, numQ w1] 0 X = X := fun _ => rfl
    have i1 : ∀ X : Option R, inr [numQ w0, numQ w1] 1 X = X := fun _ => rfl
    have i2 : ∀ X : Option R, inr [w0, w1, w2, w3] 2 X = X := fun _ => rfl
    have i3 : ∀ X : Option R, inr [w0, w1, w2, w3] 3 X = X := fun _ => rfl
    have a0 : ∀ k : Int → Option R, at_ [numQ w0, numQ w1] 0 k = k (numQ w0) := fun _ => rfl
    have a1 : ∀ k : Int → Option R, at_ [numQ w0, numQ w1] 1 k = k (numQ w1) := fun _ => rfl
    have a2 : ∀ k : List UInt8 → Option R, at_ [w0, w1, w2, w3] 2 k = k w2 := fun _ => rfl
    have a3 : ∀ k : List UInt8 → Option R, at_ [w0, w1, w2, w3] 3 k = k w3 := fun _ => rfl
    have eB : spotB [w0, w1, w2, w3] = [w0, w1].all numB := rfl
    have eQ : spotQ [w0, w1, w2, w3] = ⟨numQ w0, numQ w1, w2, w3⟩ := rfl
    rw [hlen, cond_false, htk, cond_true, htw, n3, eB, eQ]
    cases [w0, w1].all numB with
    | false =>
     cases ended <;> cases ls == [] <;> rfl
    | true =>
     rw [cond_true, Bool.not_true, cond_false, i0, a0, i1, a1, i2, a2, i3, a3, room1 acc _ 48 (by omega) (by omega), cond_true, w64_succ (show i < 4611686018427387904 by omega), ih _ (by simp; omega)]
     cases ended <;> cases ls == [] <;> rfl
theorem Q_LinesS_loop : ∀ (n i : Nat) (t : List UInt8) (acc : List G_Spot), t.length < n → t.length ≤ 900000 → acc.length + t.length ≤ 900000 → i + t.length ≤ 900000 → ∀ (R : Type) (z : Int → Option R) (e2 : List G_Spot → Option R) (e0 : Int → Bool → List G_Spot → Option R), (∀ a c, e0 a false c = z a) →
  Q_Lines_Q_SpotsRead_1bn_L2 I_Q_Lines_Q_SpotsRead_1bn n t (i : Int) acc e0 e0 e2 = match goQ lineS n i t acc with | .inl j => z (j : Int) | .inr a => e2 a
 | 0, _, _, _, h, _, _, _, _, _, _, _, _ => by omega
 | n + 1, i, t, acc, h, hl, ha, hi, R, z, e2, e0, hz => by
  rw [Q_Lines_Q_SpotsRead_1bn_L2, goQ]
  cases ht : t == [] with
  | true => rfl
  | false =>
   have hne : t ≠ [] := beq_eq_false_iff_ne.1 ht
   have hpos := List.length_pos_iff.2 hne
   have hcl := cutB_len 10 t
   have w1 : ∀ k : List UInt8 → List UInt8 → Bool → Option R, I_Q_Lines_Q_SpotsRead_1bn.strings_Cut t [10] k = k (cutB 10 t).1 (cutB 10 t).2.1 (cutB 10 t).2.2 := fun k => Cut_g 10 (by omega) R k
   have w2 : ∀ k : Bool → List G_Spot → Option R, I_Q_Lines_Q_SpotsRead_1bn.Q_SpotsRead_1_ba1 (cutB 10 t).1 acc k = k (lineS (cutB 10 t).1).isSome (accS (cutB 10 t).1 acc) := fun k => Q_SpotsRead_1_g (by omega) (by omega) R k
   rw [Bool.not_false, cond_true, w1, w2]
   simp only [Bool.false_eq_true, if_false]
   cases hc : (cutB 10 t).2.2 with
   | false => rw [Bool.not_false, cond_true, if_pos rfl]; exact hz _ _
   | true =>
    have hcl2 := hcl.2 hc
    rw [Bool.not_true, cond_false, if_neg (by decide)]
    cases hL : lineS (cutB 10 t).1 with
    | none => exact hz _ _
    | some c =>
     rw [accS_some hL, Option.isSome_some, Bool.not_true, cond_false, w64_succ (show i < 4611686018427387904 by omega)]
     exact Q_LinesS_loop n (i + 1) (cutB 10 t).2.1 (acc ++ [c]) (by omega) (by omega) (by simp; omega) (by omega) R z e2 e0 hz
theorem fine_lineS {l : List UInt8} (hl : l.length ≤ 900000) (ha : ascB l) {c : G_Spot} (h : lineS l = some c) : FineSW c := by
 have hc := lineS_is h
 have hw := words_len (l := l) (by omega)
 have hm := splitG_mem 32 l
 subst hc
 unfold lineS at h
 rcases fourS (ws := splitG 32 l) with ⟨h1, h2⟩ | ⟨w0, w1, w2, w3, e⟩
 ·rw [h2, Bool.and_false] at h; cases h
 ·rw [e] at hw hm ⊢
  exact ⟨hw w2 (by simp), fun x hx => ha x (hm w2 (by simp) x hx).1, hw w3 (by simp), fun x hx => ha x (hm w3 (by simp) x hx).1⟩
noncomputable def readS (s : List UInt8) : List G_Spot × Int × Int := if s.length > 200000 then ([], 0, 2) else match goG lineS (endG s) 0 (linesG s) [] with
 | .inl j => ([], (j : Int), 9)
 | .inr a => if faultS a != 0 then ([], 0, faultS a) else (a, 0, 0)
theorem readS_fine {s : List UInt8} (ha : ascB s) (hl : s.length ≤ 200000) {a : List G_Spot} (h : goG lineS (endG s) 0 (linesG s) [] = .inr a) : (∀ c ∈ a, FineSW c) ∧ a.length ≤ 900000 := by
 have hm := linesG_mem s
 have hn := linesG_len s
 have := goG_all lineS FineSW (endG s) (linesG s) 0 [] a (fun l hL c hc => fine_lineS (by have := (hm l hL).1; omega) (fun x hx => ha x ((hm l hL).2 x hx)) hc) (fun c hc => by cases hc) h
 exact ⟨this.1, by have := this.2; simp only [List.length_nil] at this; omega⟩
theorem readS_big {s : List UInt8} (hl : s.length > 200000) : readS s = ([], 0, 2) := by unfold readS; rw [if_pos hl]
theorem readS_inl {s : List UInt8} (hl : ¬ s.length > 200000) {j : Nat} (hg : goG lineS (endG s) 0 (linesG s) [] = .inl j) : readS s = ([], (j : Int), 9) := by unfold readS; rw [if_neg hl, hg]
theorem readS_inr {s : List UInt8} (hl : ¬ s.length > 200000) {a : List G_Spot} (hg : goG lineS (endG s) 0 (linesG s) [] = .inr a) : readS s = if faultS a != 0 then ([], 0, faultS a) else (a, 0, 0) := by unfold readS; rw [if_neg hl, hg]
theorem band_Read_g {s : List UInt8} (ha : ascB s) (R : Type) (k : List G_Spot → Int → Int → Option R) : band_Read s k = k (readS s).1 (readS s).2.1 (readS s).2.2 := by
 show band_Read_ I_band_Read s k = _
 unfold band_Read_
 by_cases hl : s.length > 200000
 ·rw [decide_eq_true (show (s.length : Int) > 200000 by omega), readS_big hl]; rfl
 ·have hm := linesG_mem s
  have hn := linesG_len s
  have w1 : ∀ k : List (List UInt8) → Bool → Option R, I_band_Read.kit_Lines s k = k (linesG s) (endG s) := fun k => kit_Lines_g (by omega) R k
  rw [decide_eq_false (show ¬ (s.length : Int) > 200000 by omega), cond_false, w1]
  refine (band_Read_loop (linesG s) (endG s) (fun l h => by have := (hm l h).1; omega) (by omega) (linesG s) NN 0 [] rfl (by have := NN_ok; omega) (Nat.zero_le _) R (fun a b => k [] a b) _).trans ?_
  cases hg : goG lineS (endG s) 0 (linesG s) [] with
  | inl j => rw [readS_inl hl hg]
  | inr a =>
   obtain ⟨f1, f2⟩ := readS_fine ha (by omega) hg
   have w2 : ∀ k : Int → Option R, I_band_Read.band_CheckSpots a k = k (faultS a) := fun k => band_CheckSpots_W f1 (by omega) R k
   show I_band_Read.band_CheckSpots a _ = _
   rw [w2, readS_inr hl hg]
   cases faultS a != 0 <;> rfl
theorem Q_SpotsRead_g {s : List UInt8} (ha : ascB s) (R : Type) (k : List G_Spot → Int → Int → Option R) : Q_SpotsRead s k = k (readS s).1 (readS s).2.1 (readS s).2.2 := by
 show Q_SpotsRead_ I_Q_SpotsRead s k = _
 unfold Q_SpotsRead_
 by_cases hl : s.length > 200000
 ·rw [decide_eq_true (show (s.length : Int) > 200000 by omega), readS_big hl]; rfl
 ·rw [decide_eq_false (show ¬ (s.length : Int) > 200000 by omega), cond_false]
  have hz := Q_LinesS_loop NN 0 s [] (by have := NN_ok; omega) (by omega) (by simp; omega) (by omega) R (fun a => k [] a 9)
  refine (hz _ _ (fun a c => rfl)).trans ?_
  rw [goQ_G lineS NN 0 s [] (by have := NN_ok; omega)]
  cases hg : goG lineS (endG s) 0 (linesG s) [] with
  | inl j => rw [readS_inl hl hg]
  | inr a =>
   obtain ⟨f1, f2⟩ := readS_fine ha (by omega) hg
   have w2 : ∀ k : Int → Option R, I_Q_SpotsRead.Q_SpotsFault a k = k (faultS a) := fun k => Q_SpotsFault_W f1 (by omega) R k
   show I_Q_SpotsRead.Q_SpotsFault a _ = _
   rw [w2, readS_inr hl hg]
   cases faultS a != 0 <;> rfl
theorem readS_len {s : List UInt8} (ha : ascB s) : (readS s).1.length ≤ 900000 := by
 by_cases hl : s.length > 200000
 ·rw [readS_big hl]; simp
 ·cases hg : goG lineS (endG s) 0 (linesG s) [] with
  | inl j => rw [readS_inl hl hg]; simp
  | inr a =>
   have := (readS_fine ha (by omega) hg).2
   rw [readS_inr hl hg]
   cases faultS a != 0
   ·exact this
   ·simp
end Go.Am
set_option linter.unusedVariables false
set_option linter.unusedSectionVars false
set_option linter.unusedSimpArgs false
set_option maxRecDepth 100000
namespace Go.Am
open Go Go.Proofs
variable [Fuel]
theorem RightSpotsT_loop (m : Nat) (hm : m ≤ 20) : ∀ (j n i : Nat) (b : Int) (s : G_Stream), i + j = 5 → j < n → SOk b s → b + 700 * (j : Int) ≤ 900000 →
  ∃ (r : List G_Spot) (s' : G_Stream), SOk (b + 700 * (j : Int)) s' ∧ r.length ≤ m ∧ (∀ c ∈ r, FineSp c) ∧ faultS r = 0 ∧ ∀ (R : Type) (k : List G_Spot → G_Stream → Option R), Stream_RightSpots_L2 I_Stream_RightSpots n (m : Int) (i : Int) s (fun e12 e13 => k e13 e12) (fun e14 => k [] e14) = k r s'
 | _, 0, _, _, _, _, h, _, _ => by omega
 | 0, n + 1, i, b, s, hi, _, hs, hb => ⟨[], s, hs.mono (by omega), by simp, (fun c h => by cases h), rfl, fun R k => by rw [Stream_RightSpots_L2, decide_eq_false (by omega)]; rfl⟩
 | j + 1, n + 1, i, b, s, hi, hn, hs, hb => by
  obtain ⟨r, s1, z1, l1, f1, e1⟩ := Stream_Spots_gives hs (by omega) m hm
  have hm' : (m : Int) ≤ 20 := by omega
  have e1' : ∀ {R : Type} (k : List G_Spot → G_Stream → Option R), I_Stream_RightSpots.Stream_Spots s (m : Int) k = k r s1 := fun k => e1 _ k
  have hq : ∀ {R : Type} (k : Int → Option R), I_Stream_RightSpots.Q_SpotsFault r k = k (faultS r) := fun k => Q_SpotsFault_is f1 (by omega) _ k
  by_cases h0 : faultS r = 0
  ·refine ⟨r, s1, z1.mono (by omega), l1, f1, h0, fun R k => ?_⟩
   rw [Stream_RightSpots_L2, decide_eq_true (by omega)]
   simp only [cond_true, e1', hq, h0, beq_self_eq_true]
  ·obtain ⟨r', s', g1, g2, g3, g4, g5⟩ := RightSpotsT_loop m hm j n (i + 1) (b + 700) s1 (by omega) (by omega) (z1.mono (by omega)) (by omega)
   refine ⟨r', s', g1.mono (by omega), g2, g3, g4, fun R k => ?_⟩
   rw [Stream_RightSpots_L2, decide_eq_true (by omega)]
   simp only [cond_true, e1', hq, beq_eq_false_iff_ne.2 h0, cond_false, w64_succ (show i < 4611686018427387904 by omega), g5]
theorem RightSpotsT_gives {b : Int} {s : G_Stream} (hs : SOk b s) (hb : b ≤ 100000) (m : Nat) (hm : m ≤ 20) :
  ∃ (r : List G_Spot) (s' : G_Stream), SOk (b + 3500) s' ∧ r.length ≤ m ∧ (∀ c ∈ r, FineSp c) ∧ faultS r = 0 ∧ ∀ (R : Type) (k : List G_Spot → G_Stream → Option R), Stream_RightSpots s (m : Int) k = k r s' := by
 obtain ⟨r, s', g1, g2, g3, g4, g5⟩ := RightSpotsT_loop m hm 5 NN 0 b s (by omega) (by have := NN_ok; omega) hs (by omega)
 exact ⟨r, s', g1.mono (by omega), g2, g3, g4, fun R k => g5 R k⟩
def wordsS (c : G_Spot) : List (List UInt8) := [Lib.itoa c.f_At, Lib.itoa c.f_Hertz, c.f_Call, c.f_By]
def lineSs (c : G_Spot) : List UInt8 := Lib.join (wordsS c) [32]
structure ShortS (c : G_Spot) : Prop where
 at1 : Wide c.f_At
 hertz : Wide c.f_Hertz
 call : c.f_Call.length ≤ 100 ∧ ascB c.f_Call
 by1 : c.f_By.length ≤ 100 ∧ ascB c.f_By
theorem short_S {d : List G_Spot} (hf : ∀ c ∈ d, FineSp c) : ∀ c ∈ d, ShortS c := fun c hc => by
 have hcl : ∀ s ∈ callsL, s.length ≤ 100 ∧ ∀ x ∈ s, x.toNat < 128 := by decide
 have h := hf c hc
 have a := h.at1
 have b := h.hertz
 exact ⟨⟨by omega, by omega⟩, ⟨by omega, by omega⟩, hcl _ h.call, hcl _ h.by1⟩
theorem wordsS_short {c : G_Spot} (h : ShortS c) : ∀ w ∈ wordsS c, w.length ≤ 100 ∧ ascB w := by
 intro w hw
 have i1 := itoa_len h.at1
 have i2 := itoa_len h.hertz
 unfold wordsS at hw
 simp only [List.mem_cons, List.not_mem_nil, or_false] at hw
 rcases hw with rfl | rfl | rfl | rfl
 ·exact ⟨by omega, itoa_asc _⟩
 ·exact ⟨by omega, itoa_asc _⟩
 ·exact h.call
 ·exact h.by1
theorem lineSs_short {c : G_Spot} (h : ShortS c) : (lineSs c).length ≤ 900 ∧ ascB (lineSs c) := by
 have hw := wordsS_short h
 have := join_len (ws := wordsS c) (sep := [32]) (n := 100) fun w hh => (hw w hh).1
 have e : (wordsS c).length = 4 := rfl
 rw [e] at this
 exact ⟨by unfold lineSs; simp at this; omega, join_asc (fun w hh => (hw w hh).2) (ascB_one (by decide))⟩
theorem Q_Numbers_two {a b : Int} (ha : Wide a) (hb : Wide b) (R : Type) (k : List UInt8 → Option R) : Q_Numbers [a, b] k = k (Lib.join [Lib.itoa a, Lib.itoa b] [32]) := by
 have la := itoa_len ha
 have lb := itoa_len hb
 have h1 : ∀ k : List UInt8 → Option R, I_Q_Numbers.strconv_Itoa a k = k (Lib.itoa a) := fun k => Itoa_g ha R k
 have h2 : ∀ k : List UInt8 → Option R, I_Q_Numbers.strconv_Itoa b k = k (Lib.itoa b) := fun k => Itoa_g hb R k
 have h3 : ∀ k : List UInt8 → Option R, I_Q_Numbers.strings_Join [Lib.itoa a, Lib.itoa b] [32] k = k (Lib.join [Lib.itoa a, Lib.itoa b] [32]) := fun k => Join_g (ws := [Lib.itoa a, Lib.itoa b]) (by simp) (fun w hw => by
  simp only [List.mem_cons, List.not_mem_nil, or_false] at hw
  rcases hw with rfl | rfl <;> omega) (by simp) R k
 obtain ⟨m, e, hm⟩ := NN_succ
 obtain ⟨m, rfl⟩ : ∃ q, m = q + 2 := ⟨m - 2, by omega⟩
 show Q_Numbers_L3 I_Q_Numbers NN [a, b] (([a, b] : List Int).length : Int) ((0 : Nat) : Int) [] (fun e10 => I_Q_Numbers.strings_Join e10 [32] fun r11 => k r11) = _
 rw [e]
 have d0 : ([a, b] : List Int).drop 0 = a :: [b] := rfl
 have d1 : ([a, b] : List Int).drop 1 = b :: [] := rfl
 have d2 : ([a, b] : List Int).drop 2 = [] := rfl
 rw [Q_Numbers_L3, lt_drop d0, cond_true, get_drop d0, h1, room1 _ _ 16 (by simp) (by omega), cond_true, w64_succ (i := 0) (by omega)]
 rw [Q_Numbers_L3, lt_drop d1, cond_true, get_drop d1, h2, room1 _ _ 16 (by simp) (by omega), cond_true, w64_succ (i := 0 + 1) (by omega)]
 rw [Q_Numbers_L3, ge_drop d2, cond_false]
 exact h3 _
def textS : List G_Spot → List UInt8
 | [] => []
 | c :: cs => (lineSs c ++ [10]) ++ textS cs
theorem lineSs_eq (c : G_Spot) : Lib.join [Lib.itoa c.f_At, Lib.itoa c.f_Hertz] [32] ++ [32] ++ c.f_Call ++ [32] ++ c.f_By = lineSs c := by
 unfold lineSs wordsS
 rw [Lib.join_cons, Lib.join_cons]
 simp [Lib.joinTail, List.append_assoc]
theorem textS_short : ∀ {d : List G_Spot}, (∀ c ∈ d, ShortS c) → (textS d).length ≤ 901 * d.length ∧ ascB (textS d)
 | [], _ => ⟨by simp [textS], fun x hx => by cases hx⟩
 | c :: cs, h => by
  have h1 := lineSs_short (h c (by simp))
  have h2 := textS_short (d := cs) fun c hc => h c (List.mem_cons_of_mem _ hc)
  refine ⟨?_, ascB_app (ascB_app h1.2 (ascB_one (by decide))) h2.2⟩
  show ((lineSs c ++ [10]) ++ textS cs).length ≤ _
  rw [List.length_append, List.length_append, List.length_cons]
  simp only [List.length_cons, List.length_nil]
  omega
theorem SpotLines_loop (d : List G_Spot) (hd : ∀ c ∈ d, ShortS c) (hl : d.length ≤ 100) : ∀ (xs : List G_Spot) (n i : Nat) (acc : List UInt8), d.drop i = xs → xs.length < n → acc.length ≤ 901 * i → ∀ (R : Type) (e0 : List UInt8 → Option R),
  Q_SpotLines_L3 I_Q_SpotLines n acc d (d.length : Int) (i : Int) e0 = e0 (acc ++ textS xs)
 | _, 0, _, _, _, h, _, _, _ => by omega
 | [], n + 1, i, acc, h, _, _, R, e0 => by rw [Q_SpotLines_L3, ge_drop h, textS, List.append_nil]; rfl
 | c :: cs, n + 1, i, acc, h, hn, ha, R, e0 => by
  have h' := drop_cons h
  have hlt := h'.2.1
  have hc := hd c (mem_drop h)
  have hsh := lineSs_short hc
  have he := lineSs_eq c
  have hle := congrArg List.length he
  simp only [List.length_append, List.length_cons, List.length_nil] at hle
  have ih := SpotLines_loop d hd hl cs n (i + 1) (acc ++ (lineSs c ++ [10])) h'.2.2.1 (Nat.lt_of_succ_lt_succ (by simpa only [List.length_cons] using hn)) (by simp; omega) R e0
  have a1 : ∀ k : List UInt8 → Option R, I_Q_SpotLines.Q_Numbers [c.f_At, c.f_Hertz] k = k (Lib.join [Lib.itoa c.f_At, Lib.itoa c.f_Hertz] [32]) := fun k => Q_Numbers_two hc.at1 hc.hertz R k
  rw [Q_SpotLines_L3, lt_drop h, cond_true, get_drop h, a1, strOk_g (by simp; omega), cond_true, strOk_g (by simp; omega), cond_true, strOk_g (by simp; omega), cond_true, strOk_g (by simp; omega), cond_true, he, strOk_g (by simp; omega), cond_true, strOk_g (by simp; omega), cond_true, w64_succ (show i < 4611686018427387904 by omega), ih, textS, List.append_assoc]
theorem Q_SpotLines_g {d : List G_Spot} (hd : ∀ c ∈ d, ShortS c) (hl : d.length ≤ 100) (R : Type) (k : List UInt8 → Option R) : Q_SpotLines d k = k (textS d) :=
 SpotLines_loop d hd hl d NN 0 [] rfl (by have := NN_ok; omega) (by simp) R (fun e => k e)
theorem bandText_loop (d : List G_Spot) (hd : ∀ c ∈ d, ShortS c) (hl : d.length ≤ 100) : ∀ (xs : List G_Spot) (n i : Nat) (acc : List UInt8), d.drop i = xs → xs.length < n → acc.length ≤ 901 * i → ∀ (R : Type) (e0 : List UInt8 → Option R),
  band_Text_L6 I_band_Text n d (d.length : Int) (i : Int) acc e0 = e0 (acc ++ textS xs)
 | _, 0, _, _, _, h, _, _, _ => by omega
 | [], n + 1, i, acc, h, _, _, R, e0 => by rw [band_Text_L6, ge_drop h, textS, List.append_nil]; rfl
 | c :: cs, n + 1, i, acc, h, hn, ha, R, e0 => by
  have h' := drop_cons h
  have hlt := h'.2.1
  have hc := hd c (mem_drop h)
  have hsh := lineSs_short hc
  have hw := wordsS_short hc
  have ih := bandText_loop d hd hl cs n (i + 1) (acc ++ (lineSs c ++ [10])) h'.2.2.1 (Nat.lt_of_succ_lt_succ (by simpa only [List.length_cons] using hn)) (by simp; omega) R e0
  have a1 : ∀ k : List UInt8 → Option R, I_band_Text.strconv_Itoa c.f_At k = k (Lib.itoa c.f_At) := fun k => Itoa_g hc.at1 R k
  have a2 : ∀ k : List UInt8 → Option R, I_band_Text.strconv_Itoa c.f_Hertz k = k (Lib.itoa c.f_Hertz) := fun k => Itoa_g hc.hertz R k
  have a4 : ∀ k : List UInt8 → Option R, I_band_Text.kit_Join [Lib.itoa c.f_At, Lib.itoa c.f_Hertz, c.f_Call, c.f_By] k = k (lineSs c ++ [10]) := fun k => by
   have b1 : ∀ k : List UInt8 → Option R, I_kit_Join.strings_Join (wordsS c) [32] k = k (lineSs c) := fun k => Join_g (ws := wordsS c) (by simp [wordsS]) (fun w hh => by have := (hw w hh).1; omega) (by simp) R k
   show kit_Join_ I_kit_Join (wordsS c) k = _
   unfold kit_Join_
   rw [b1, strOk_g (by simp; omega), cond_true]
  rw [band_Text_L6, lt_drop h, cond_true, get_drop h, a1, a2, a4, decide_eq_true (by simp; omega), cond_true, w64_succ (show i < 4611686018427387904 by omega), ih, textS, List.append_assoc]
theorem band_Text_right {d : List G_Spot} (hf : ∀ c ∈ d, FineSp c) (hd : ∀ c ∈ d, ShortS c) (hl : d.length ≤ 100) (h0 : faultS d = 0) (R : Type) (k : List UInt8 → Int → Option R) : band_Text d k = k (textS d) 0 := by
 have w1 : ∀ k : Int → Option R, I_band_Text.band_CheckSpots d k = k (faultS d) := fun k => band_CheckSpots_is hf (by omega) R k
 have hs := textS_short hd
 show band_Text_ I_band_Text d k = _
 unfold band_Text_
 rw [w1, h0]
 refine (bandText_loop d hd hl d NN 0 [] rfl (by have := NN_ok; omega) (by simp) R _).trans ?_
 rw [List.nil_append, decide_eq_false (show ¬ (((textS d).length : Int) > 200000) by omega)]
 rfl
theorem band_Text_wrong {d : List G_Spot} (hf : ∀ c ∈ d, FineSp c) (hl : d.length ≤ 100) (h0 : faultS d ≠ 0) (R : Type) (k : List UInt8 → Int → Option R) : band_Text d k = k [] (faultS d) := by
 have w1 : ∀ k : Int → Option R, I_band_Text.band_CheckSpots d k = k (faultS d) := fun k => band_CheckSpots_is hf (by omega) R k
 show band_Text_ I_band_Text d k = _
 unfold band_Text_
 rw [w1, bne_iff_ne.2 h0]
 rfl
theorem SpotText_loop : ∀ (j n i : Nat) (t : List UInt8) (b : Int) (s : G_Stream) (q : Nat), i + j = q → q ≤ 5 → j < n → SOk b s → b + 3 * (j : Int) ≤ 900000 → t.length ≤ 9000 + 20 * i → ascB t →
  ∃ r s', r.length ≤ 9000 + 20 * q ∧ ascB r ∧ SOk (b + 3 * (j : Int)) s' ∧ ∀ (R : Type) (e0 : List UInt8 → G_Stream → Option R), Stream_SpotText_L3 I_Stream_SpotText n t (q : Int) (i : Int) s e0 = e0 r s'
 | _, 0, _, _, _, _, _, _, _, h, _, _, _, _ => by omega
 | 0, n + 1, i, t, b, s, q, hi, _, _, hs, hb, hl, ha => ⟨t, s, by omega, ha, hs.mono (by omega), fun R e0 => by rw [Stream_SpotText_L3, decide_eq_false (by omega)]; rfl⟩
 | j + 1, n + 1, i, t, b, s, q, hi, hq, hn, hs, hb, hl, ha => by
  obtain ⟨r, s1, l1, _, a1, z1, e1⟩ := Changed_gives hs (by omega) (t := t) (ls := [32, 10, 48, 45, 57, 107]) (by omega) ha (by simp) (by show ∀ x ∈ _, _; decide)
  obtain ⟨r', s', g1, g2, g3, g4⟩ := SpotText_loop j n (i + 1) r (b + 3) s1 q (by omega) hq (by omega) z1 (by omega) (by simp at l1; omega) a1
  refine ⟨r', s', g1, g2, g3.mono (by omega), fun R e0 => ?_⟩
  have e1' : ∀ k : List UInt8 → G_Stream → Option R, I_Stream_SpotText.Stream_Changed s t [32, 10, 48, 45, 57, 107] k = k r s1 := fun k => e1 R k
  rw [Stream_SpotText_L3, decide_eq_true (by omega), cond_true, e1', w64_succ (show i < 4611686018427387904 by omega), g4]
theorem SpotText_gives {b : Int} {s : G_Stream} (hs : SOk b s) (hb : b ≤ 90000) :
  ∃ r s', r.length ≤ 10000 ∧ ascB r ∧ SOk (b + 4000) s' ∧ ∀ (R : Type) (k : List UInt8 → G_Stream → Option R), Stream_SpotText s k = k r s' := by
 obtain ⟨n, s1, n1, n2, z1, e1⟩ := Stream_Range_gives hs 0 4 (by omega) (by omega) (by omega) (by omega) (by omega)
 obtain ⟨m, rfl⟩ : ∃ m : Nat, n = (m : Int) := ⟨n.toNat, by omega⟩
 obtain ⟨d, s2, z2, ld, fd, f0, e2⟩ := RightSpotsT_gives z1 (by omega) m (by omega)
 have sd := short_S fd
 obtain ⟨q, s3, q1, z3, e3⟩ := Stream_Pick_gives z2 [0, 0, 1, 2] (by omega) (by simp) (by simp)
 have q2 : 0 ≤ q ∧ q ≤ 2 := by
  simp only [List.mem_cons, List.not_mem_nil, or_false] at q1
  omega
 obtain ⟨p, rfl⟩ : ∃ p : Nat, q = (p : Int) := ⟨q.toNat, by omega⟩
 have ht := textS_short sd
 obtain ⟨r, s', g1, g2, g3, g4⟩ := SpotText_loop p NN 0 (textS d) (b + 1 + 3500 + 1) s3 p (by omega) (by omega) (by have := NN_ok; omega) z3 (by omega) (by omega) ht.2
 refine ⟨r, s', by omega, g2, g3.mono (by omega), fun R k => ?_⟩
 have f1 : ∀ k : Int → G_Stream → Option R, I_Stream_SpotText.Stream_Range s 0 4 k = k (m : Int) s1 := fun k => e1 R k
 have f2 : ∀ k : List G_Spot → G_Stream → Option R, I_Stream_SpotText.Stream_RightSpots s1 (m : Int) k = k d s2 := fun k => e2 R k
 have f3 : ∀ k : List UInt8 → Option R, I_Stream_SpotText.Q_SpotLines d k = k (textS d) := fun k => Q_SpotLines_g sd (by omega) R k
 have f4 : ∀ k : Int → G_Stream → Option R, I_Stream_SpotText.Stream_Pick s2 [0, 0, 1, 2] k = k (p : Int) s3 := fun k => e3 R k
 show Stream_SpotText_ I_Stream_SpotText s k = _
 unfold Stream_SpotText_
 rw [f1, f2, f3, f4]
 exact g4 R _
theorem law_SpotTexts_true (l : List Int) (R : Type) (k : Bool → Option R) : law_SpotTexts l k = k true := by
 obtain ⟨n, s1, n1, n2, z1, e1⟩ := Stream_Range_gives (sOk0 l) 0 6 (by omega) (by omega) (by omega) (by omega) (by omega)
 obtain ⟨m, rfl⟩ : ∃ m : Nat, n = (m : Int) := ⟨n.toNat, by omega⟩
 obtain ⟨d, s2, z2, ld, ff, e2⟩ := Stream_Spots_gives z1 (by omega) m (by omega)
 obtain ⟨t, s3, lt, at', z3, e3⟩ := SpotText_gives z2 (by omega)
 have hr := readS_len at'
 have g1 : ∀ k : Int → G_Stream → Option R, I_law_SpotTexts.Stream_Range ⟨l, 0⟩ 0 6 k = k (m : Int) s1 := fun k => e1 R k
 have g2 : ∀ k : List G_Spot → G_Stream → Option R, I_law_SpotTexts.Stream_Spots s1 (m : Int) k = k d s2 := fun k => e2 R k
 have g3 : ∀ k : List UInt8 → G_Stream → Option R, I_law_SpotTexts.Stream_SpotText s2 k = k t s3 := fun k => e3 R k
 have g4 : ∀ k : Int → Option R, I_law_SpotTexts.Q_SpotsFault d k = k (faultS d) := fun k => Q_SpotsFault_is ff (by omega) R k
 have g5 : ∀ k : List G_Spot → Int → Int → Option R, I_law_SpotTexts.band_Read t k = k (readS t).1 (readS t).2.1 (readS t).2.2 := fun k => band_Read_g at' R k
 have g6 : ∀ k : List G_Spot → Int → Int → Option R, I_law_SpotTexts.Q_SpotsRead t k = k (readS t).1 (readS t).2.1 (readS t).2.2 := fun k => Q_SpotsRead_g at' R k
 have g7 : ∀ k : Bool → Option R, I_law_SpotTexts.slices_Equal__Spot (readS t).1 (readS t).1 k = k true := fun k => equalS_is (by omega) R k
 have g8 : ∀ k : Bool → Option R, I_law_SpotTexts.law_banded k = k true := fun k => law_banded_is R k
 show law_SpotTexts_ I_law_SpotTexts l k = _
 unfold law_SpotTexts_
 rw [g1, g2, g3]
 by_cases h0 : faultS d = 0
 ·have sd := short_S ff
  have g9 : ∀ k : List UInt8 → Int → Option R, I_law_SpotTexts.band_Text d k = k (textS d) 0 := fun k => band_Text_right ff sd (by omega) h0 R k
  have g10 : ∀ k : List UInt8 → Option R, I_law_SpotTexts.Q_SpotLines d k = k (textS d) := fun k => Q_SpotLines_g sd (by omega) R k
  rw [g9, g4, h0, beq_self_eq_true, cond_true, g10, g5, g6, cond_true, beq_self_eq_true, cond_true, g7, cond_true, beq_self_eq_true, cond_true, beq_self_eq_true, cond_true, g8]
 ·have g9 : ∀ k : List UInt8 → Int → Option R, I_law_SpotTexts.band_Text d k = k [] (faultS d) := fun k => band_Text_wrong ff (by omega) h0 R k
  have h1 : (faultS d == 0) = false := beq_eq_false_iff_ne.2 h0
  rw [g9, g4, h1, cond_false, g5, g6, beq_self_eq_true, cond_true]
  show (bif ([] : List UInt8) == [] then _ else _) = _
  rw [show (([] : List UInt8) == []) = true from rfl, cond_true, g7, cond_true, beq_self_eq_true, cond_true, beq_self_eq_true, cond_true, g8]
end Go.Am
