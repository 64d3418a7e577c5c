/- The plain law, in Lean alone: TC1, TC2. No condition: lemmas for the claim. -/
import Derived.Test.YtoajjnhmofegcaaGreatDoorPlT6
import Derived.Test.YtoajjnhmofegcaaGreatDoorPlD1
set_option linter.unusedVariables false
set_option linter.unusedSectionVars false
set_option linter.unusedSimpArgs false
set_option maxRecDepth 100000
namespace Go.Am
open Go Go.Proofs
variable [Fuel]
structure FineKW (c : G_Card) : Prop where
 at1 : Wide c.f_At
 kind : Wide c.f_Kind
 mode : Wide c.f_Mode
 call : c.f_Call.length ≤ 1000000
 calla : ascB c.f_Call
 band : c.f_Band.length ≤ 1000000
theorem Q_CardOrder_W {x y : G_Card} (hx : FineKW x) (hy : FineKW y) (R : Type) (k : Int → Option R) : Q_CardOrder x y k = k (cmpK x y) := by
 simp only [Q_CardOrder, Q_CardOrder_, I_Q_CardOrder, Q_sign_is, strings_Compare_is, cmpK, orL]
 rw [sgn_wide hx.at1 hy.at1, sgn_wide hx.mode hy.mode, sgn_wide hx.kind hy.kind, ne_cmpI x.f_At y.f_At, ne_cb x.f_Call, ne_cb x.f_Band, ne_cmpI x.f_Mode y.f_Mode]
 cases cmpI x.f_At y.f_At != 0 <;> cases Lib.compareBytes x.f_Call y.f_Call != 0 <;> cases Lib.compareBytes x.f_Band y.f_Band != 0 <;> cases cmpI x.f_Mode y.f_Mode != 0 <;> simp only [cond_true, cond_false]
 cases h : cmpI x.f_Kind y.f_Kind != 0 with
 | true => rfl
 | false =>
  have : cmpI x.f_Kind y.f_Kind = 0 := by simpa using h
  rw [this]; rfl
theorem club_CheckCards_loopW (d : List G_Card) (hf : ∀ c ∈ d, FineKW c) (hl : d.length ≤ 1000000) : ∀ (xs : List G_Card) (n i : Nat) (p : Option G_Card), d.drop i = xs → PrevAt d i p → xs.length < n → ∀ (R : Type) (k : Int → Option R),
  club_CheckCards_L4 I_club_CheckCards n d d (d.length : Int) (i : Int) k (k 0) = k (faultKs p xs)
 | _, 0, _, _, _, _, h, _, _ => by omega
 | [], n + 1, i, p, h, _, _, _, _ => by rw [club_CheckCards_L4, ge_drop h]; rfl
 | c :: cs, n + 1, i, p, h, hp, hn, R, k => by
  have h' := drop_cons h
  have ih := club_CheckCards_loopW d hf hl cs n (i + 1) (some c) h'.2.2.1 (prevAt_next h) (by simp at hn; omega) R k
  have hc := hf c (mem_drop h)
  rw [club_CheckCards_L4, lt_drop h]
  simp only [I_club_CheckCards] at ih
  simp only [cond_true, get_drop h, I_club_CheckCards, kit_IsMoment_is, kit_Outside_is, kit_IsMode_is, call_Is_W hc.call, kit_IsKey_W hc.band, club_compareCards_is, faultKs, chkK, w64_succ (show i < 4611686018427387904 by omega), ih]
  cases momB c.f_At <;> cases inB c.f_Kind 1 3 <;> cases inB c.f_Mode 1 3 <;> cases callB c.f_Call <;> cases keyB c.f_Band <;> try rfl
  cases p with
  | none => rw [decide_eq_false (show ¬ ((i : Int) > 0) by unfold PrevAt at hp; omega)]; rfl
  | some q =>
   obtain ⟨h0, ys, hq⟩ := hp
   rw [decide_eq_true (show ((i : Int) > 0) by omega), prev_drop hq h0 (by omega)]
   simp only [Bool.not_true, cond_false, cond_true, bne_self_eq_false]
   cases decide (cmpK q c ≥ 0) <;> rfl
theorem Q_CardsFault_loopW (d : List G_Card) (hf : ∀ c ∈ d, FineKW c) (hl : d.length ≤ 1000000) : ∀ (xs : List G_Card) (n i : Nat) (p : Option G_Card), d.drop i = xs → PrevAt d i p → xs.length < n → ∀ (R : Type) (k : Int → Option R),
  Q_CardsFault_L4 I_Q_CardsFault n d d (d.length : Int) (i : Int) k (k 0) = k (faultKs p xs)
 | _, 0, _, _, _, _, h, _, _ => by omega
 | [], n + 1, i, p, h, _, _, _, _ => by rw [Q_CardsFault_L4, ge_drop h]; rfl
 | c :: cs, n + 1, i, p, h, hp, hn, R, k => by
  have h' := drop_cons h
  have ih := Q_CardsFault_loopW d hf hl cs n (i + 1) (some c) h'.2.2.1 (prevAt_next h) (by simp at hn; omega) R k
  have hc := hf c (mem_drop h)
  rw [Q_CardsFault_L4, lt_drop h]
  simp only [I_Q_CardsFault] at ih
  cases p with
  | none =>
   simp only [cond_true, get_drop h, I_Q_CardsFault, Q_Moment_is, Q_in_is, Q_Call_W hc.calla hc.call, Q_Key_W hc.band, faultKs, chkK, w64_succ (show i < 4611686018427387904 by omega), ih]
   rw [decide_eq_false (show ¬ ((i : Int) > 0) by unfold PrevAt at hp; omega)]
   cases momB c.f_At <;> cases inB c.f_Kind 1 3 <;> cases inB c.f_Mode 1 3 <;> cases callB c.f_Call <;> cases keyB c.f_Band <;> rfl
  | some q =>
   obtain ⟨h0, ys, hq⟩ := hp
   simp only [cond_true, get_drop h, I_Q_CardsFault, Q_Moment_is, Q_in_is, Q_Call_W hc.calla hc.call, Q_Key_W hc.band, faultKs, chkK, w64_succ (show i < 4611686018427387904 by omega), ih, prev_drop hq h0 (show d.length < 4611686018427387904 by omega), Q_CardOrder_W (hf q (mem_drop hq)) hc]
   rw [decide_eq_true (show ((i : Int) > 0) by omega)]
   cases momB c.f_At <;> cases inB c.f_Kind 1 3 <;> cases inB c.f_Mode 1 3 <;> cases callB c.f_Call <;> cases keyB c.f_Band <;> cases decide (cmpK q c ≥ 0) <;> rfl
theorem club_CheckCards_W {d : List G_Card} (hf : ∀ c ∈ d, FineKW c) (hl : d.length ≤ 1000000) (R : Type) (k : Int → Option R) : club_CheckCards d k = k (faultK d) := by
 have h : club_CheckCards_L4 I_club_CheckCards I_club_CheckCards.N d d (d.length : Int) 0 k (k 0) = k (faultKs none d) := club_CheckCards_loopW d hf hl d I_club_CheckCards.N 0 none rfl rfl (show d.length < NN by have := NN_ok; omega) R k
 simp only [club_CheckCards, club_CheckCards_, faultK, h]
 cases decide ((d.length : Int) > 3000) <;> rfl
theorem Q_CardsFault_W {d : List G_Card} (hf : ∀ c ∈ d, FineKW c) (hl : d.length ≤ 1000000) (R : Type) (k : Int → Option R) : Q_CardsFault d k = k (faultK d) := by
 have h : Q_CardsFault_L4 I_Q_CardsFault I_Q_CardsFault.N d d (d.length : Int) 0 k (k 0) = k (faultKs none d) := Q_CardsFault_loopW d hf hl d I_Q_CardsFault.N 0 none rfl rfl (show d.length < NN by have := NN_ok; omega) R k
 simp only [Q_CardsFault, Q_CardsFault_, faultK, h]
 cases decide ((d.length : Int) > 3000) <;> rfl
def kindS : List (List UInt8) := [[], [115, 101, 110, 116], [99, 97, 109, 101], [114, 101, 116, 117, 114, 110, 101, 100]]
def noCard : G_Card := ⟨0, 0, 0, [], []⟩
def cardQ : List (List UInt8) → G_Card
 | [w0, w1, w2, w3, w4] => ⟨numQ w0, idxG w1 kindS, idxG w4 modesS, w2, w3⟩
 | _ => noCard
def cardB : List (List UInt8) → Bool
 | [w0, w1, w2, w3, w4] => numB w0 && (decide (idxG w1 kindS > 0) && decide (idxG w4 modesS > 0))
 | _ => false
theorem fiveK {ws : List (List UInt8)} : (((ws.length : Int) != 5) = true ∧ cardB ws = false) ∨ ∃ w0 w1 w2 w3 w4, ws = [w0, w1, w2, w3, w4] := by
 match ws with
 | [w0, w1, w2, w3, w4] => exact .inr ⟨w0, w1, w2, w3, w4, rfl⟩
 | [] => exact .inl ⟨rfl, rfl⟩
 | [_] => exact .inl ⟨rfl, rfl⟩
 | [_, _] => exact .inl ⟨rfl, rfl⟩
 | [_, _, _] => exact .inl ⟨rfl, rfl⟩
 | [_, _, _, _] => exact .inl ⟨rfl, rfl⟩
 | _ :: _ :: _ :: _ :: _ :: _ :: l => exact .inl ⟨by rw [bne_iff_ne]; simp only [List.length_cons]; omega, rfl⟩
def lineK (l : List UInt8) : Option G_Card := if wordsOk l && cardB (splitG 32 l) then some (cardQ (splitG 32 l)) else none
theorem lineK_is {l : List UInt8} {c : G_Card} (h : lineK l = some c) : c = cardQ (splitG 32 l) := by
 unfold lineK at h
 split at h
 ·exact (Option.some.inj h).symm
 ·cases h
theorem gt_lt1 (i : Int) : decide (i > 0) = !decide (i < 1) := by
 by_cases h : i < 1
 ·rw [decide_eq_true h, decide_eq_false (by omega)]; rfl
 ·rw [decide_eq_false h, decide_eq_true (by omega)]; rfl
theorem club_readLine_g {l : List UInt8} (hl : l.length ≤ 900000) (R : Type) (k : G_Card → Bool → Option R) : club_readLine l k = (lineK l).elim (k noCard false) fun c => k c true := by
 have w1 : ∀ k : List (List UInt8) → Bool → Option R, I_club_readLine.kit_Words l k = bif wordsOk l then k (splitG 32 l) true else k [] false := fun k => kit_Words_g hl R k
 have hd := words_len (l := l) (by omega)
 show club_readLine_ I_club_readLine l k = _
 unfold club_readLine_ lineK
 rw [w1]
 cases wordsOk l with
 | false => rfl
 | true =>
  rw [cond_true, Bool.not_true, cond_false, Bool.true_and]
  generalize splitG 32 l = ws at hd
  rcases fiveK (ws := ws) with ⟨h1, h2⟩ | ⟨w0, w1, w2, w3, w4, rfl⟩
  ·rw [h1, h2]; rfl
  ·have n1 : ∀ k : Int → Option R, I_club_readLine.slices_Index__string kindS w1 k = k (idxG w1 kindS) := fun k => slices_Index_g w1 kindS (by decide) R k
   have n2 : ∀ k : Int → Option R, I_club_readLine.slices_Index__string modesS w4 k = k (idxG w4 modesS) := fun k => slices_Index_g w4 modesS (by decide) R k
   have n3 : ∀ k : List Int → Bool → Option R, I_club_readLine.kit_Numbers [w0] k = bif [w0].all numB then k [numQ w0] true else k [] false := fun k => kit_Numbers_g (d := [w0]) (fun w hw => by
    simp only [List.mem_cons, List.not_mem_nil, or_false] at hw
    rw [hw]; exact hd _ (by simp)) (by simp) R k
   show I_club_readLine.kit_Numbers [w0] (fun r5 r6 => I_club_readLine.slices_Index__string kindS w1 fun r10 => I_club_readLine.slices_Index__string modesS w4 fun r12 => bif !r6 then k noCard false else bif decide (r10 < 1) then k noCard false else bif decide (r12 < 1) then k noCard false else inr r5 0 (at_ r5 0 fun x13 => k ⟨x13, r10, r12, w2, w3⟩ true)) = _
   have e1 : [w0].all numB = numB w0 := by simp
   have eB : cardB [w0, w1, w2, w3, w4] = (numB w0 && (decide (idxG w1 kindS > 0) && decide (idxG w4 modesS > 0))) := rfl
   have eQ : cardQ [w0, w1, w2, w3, w4] = ⟨numQ w0, idxG w1 kindS, idxG w4 modesS, w2, w3⟩ := rfl
   rw [n3, n1, n2, n1, n2, e1, eB, eQ, gt_lt1, gt_lt1]
   cases numB w0 <;> cases decide (idxG w1 kindS < 1) <;> cases decide (idxG w4 modesS < 1) <;> rfl
def accK (l : List UInt8) (acc : List G_Card) : List G_Card := if wordsOk l && !((((splitG 32 l).length : Nat) : Int) != 5) then acc ++ [cardQ (splitG 32 l)] else acc
theorem Q_CardsRead_1_g {l : List UInt8} {acc : List G_Card} (hl : l.length ≤ 900000) (ha : acc.length ≤ 1000000) (R : Type) (k : Bool → List G_Card → Option R) : Q_CardsRead_1_ba1 l acc k = k (lineK l).isSome (accK l acc) := by
 have w1 : ∀ k : List (List UInt8) → Bool → Option R, I_Q_CardsRead_1_ba1.Q_Words l k = k (splitG 32 l) (wordsOk l) := fun k => Q_Words_g hl R k
 have hd := words_len (l := l) (by omega)
 show Q_CardsRead_1_ba1_ I_Q_CardsRead_1_ba1 l acc k = _
 unfold Q_CardsRead_1_ba1_ lineK accK
 rw [w1]
 cases wordsOk l with
 | false => rfl
 | true =>
  rw [Bool.not_true, cond_false, Bool.true_and, Bool.true_and]
  generalize splitG 32 l = ws at hd
  rcases fiveK (ws := ws) with ⟨h1, h2⟩ | ⟨w0, w1, w2, w3, w4, rfl⟩
  ·rw [h1, h2]; rfl
  ·have n1 : ∀ k : Int → Option R, I_Q_CardsRead_1_ba1.slices_Index__string kindS w1 k = k (idxG w1 kindS) := fun k => slices_Index_g w1 kindS (by decide) R k
   have n2 : ∀ k : Int → Option R, I_Q_CardsRead_1_ba1.slices_Index__string modesS w4 k = k (idxG w4 modesS) := fun k => slices_Index_g w4 modesS (by decide) R k
   have n3 : ∀ k : Int → Bool → Option R, I_Q_CardsRead_1_ba1.Q_Number w0 15 k = k (numQ w0) (numB w0) := fun k => Q_Number_g (hd w0 (by simp)) R k
   have c1 : ∀ k : List (List UInt8) → Option R, I_Q_CardsRead_1_ba1.Q_cardWords k = k kindS := fun k => rfl
   have c2 : ∀ k : List (List UInt8) → Option R, I_Q_CardsRead_1_ba1.Q_plainModes k = k modesS := fun k => rfl
   have hlen : ((([w0, w1, w2, w3, w4].length : Nat) : Int) != 5) = false := rfl
   have i0 : ∀ X : Option R, inr [w0, w1, w2, w3, w4] 0 X = X := fun _ => rfl
   have i1 : ∀ X : Option R, inr [w0, w1, w2, w3, w4] 1 X = X := fun _ => rfl
   have i2 : ∀ X : Option R, inr [w0, w1, w2, w3, w4] 2 X = X := fun _ => rfl
   have i3 : ∀ X : Option R, inr [w0, w1, w2, w3, w4] 3 X = X := fun _ => rfl
   have i4 : ∀ X : Option R, inr [w0, w1, w2, w3, w4] 4 X = X := fun _ => rfl
   have a0 : ∀ k : List UInt8 → Option R, at_ [w0, w1, w2, w3, w4] 0 k = k w0 := fun _ => rfl
   have a1 : ∀ k : List UInt8 → Option R, at_ [w0, w1, w2, w3, w4] 1 k = k w1 := fun _ => rfl
   have a2 : ∀ k : List UInt8 → Option R, at_ [w0, w1, w2, w3, w4] 2 k = k w2 := fun _ => rfl
   have a3 : ∀ k : List UInt8 → Option R, at_ [w0, w1, w2, w3, w4] 3 k = k w3 := fun _ => rfl
   have a4 : ∀ k : List UInt8 → Option R, at_ [w0, w1, w2, w3, w4] 4 k = k w4 := fun _ => rfl
   have eB : cardB [w0, w1, w2, w3, w4] = (numB w0 && (decide (idxG w1 kindS > 0) && decide (idxG w4 modesS > 0))) := rfl
   have eQ : cardQ [w0, w1, w2, w3, w4] = ⟨numQ w0, idxG w1 kindS, idxG w4 modesS, w2, w3⟩ := rfl
   rw [hlen, cond_false, i0, a0, n3, i1, a1, i2, a2, i3, a3, i4, a4, c1, n1, c2, n2, room1 acc _ 56 (by omega) (by omega), cond_true, eB, eQ, Bool.not_false, if_pos rfl]
   cases numB w0 <;> cases decide (idxG w1 kindS > 0) <;> cases decide (idxG w4 modesS > 0) <;> rfl
theorem accK_some {l : List UInt8} {c : G_Card} (h : lineK l = some c) (acc : List G_Card) : accK l acc = acc ++ [c] := by
 have hc := lineK_is h
 unfold lineK at h
 unfold accK
 cases hw : wordsOk l with
 | false => rw [hw] at h; cases h
 | true =>
  rw [hw, Bool.true_and] at h
  rcases fiveK (ws := splitG 32 l) with ⟨h1, h2⟩ | ⟨w0, w1, w2, w3, w4, e⟩
  ·rw [h2] at h; cases h
  ·rw [hc, e]; rfl
theorem club_Read_loop (d : List (List UInt8)) (ended : Bool) (hd : ∀ l ∈ d, l.length ≤ 900000) (hl : d.length ≤ 900000) : ∀ (xs : List (List UInt8)) (n i : Nat) (acc : List G_Card), d.drop i = xs → xs.length < n → acc.length ≤ i → ∀ (R : Type) (e0 : Int → Int → Option R) (e1 : List G_Card → Option R),
  club_Read_L6 I_club_Read n ended (d.length : Int) (i : Int) d acc (fun a b _ => e0 a b) e1 = match goG lineK ended i xs acc with | .inl j => e0 (j : Int) 9 | .inr a => e1 a
 | _, 0, _, _, _, h, _, _, _, _ => by omega
 | [], n + 1, i, acc, h, _, _, R, e0, e1 => by rw [club_Read_L6, ge_drop h]; rfl
 | l :: ls, n + 1, i, acc, h, hn, ha, R, e0, e1 => by
  have h' := drop_cons h
  have hlt := h'.2.1
  have hll := hd l (mem_drop h)
  have ih := fun c hc => club_Read_loop d ended hd hl ls n (i + 1) (acc ++ [c]) h'.2.2.1 (Nat.lt_of_succ_lt_succ (by simpa only [List.length_cons] using hn)) hc R e0 e1
  have w1 : ∀ k : G_Card → Bool → Option R, I_club_Read.club_readLine l k = (lineK l).elim (k noCard false) fun c => k c true := fun k => club_readLine_g hll R k
  have hlast : ((i : Int) == w64 ((d.length : Int) - 1)) = (ls == []) := by
   rw [w64_pred (by omega) (by omega)]
   have e := h'.2.2.2
   cases ls with
   | nil => rw [List.length_nil] at e; rw [show d.length - 1 = i by omega]; simp
   | cons a b =>
    rw [List.length_cons] at e
    have : ((i : Int) == ((d.length - 1 : Nat) : Int)) = false := beq_eq_false_iff_ne.2 (by omega)
    rw [this]; rfl
  rw [club_Read_L6, lt_drop h, cond_true, inr_drop h, at_nat h'.1, w1, goG_cons]
  cases hL : lineK l with
  | none =>
   show e0 _ _ = _
   cases !ended && ls == [] <;> rfl
  | some c =>
   simp only [Option.elim]
   rw [Bool.not_true, cond_false, hlast, room1 acc _ 56 (by omega) (by omega), cond_true, w64_succ (show i < 4611686018427387904 by omega), ih _ (by simp; omega)]
   cases ended <;> cases ls == [] <;> rfl
theorem Q_LinesK_loop : ∀ (n i : Nat) (t : List UInt8) (acc : List G_Card), t.length < n → t.length ≤ 900000 → acc.length + t.length ≤ 900000 → i + t.length ≤ 900000 → ∀ (R : Type) (z : Int → Option R) (e2 : List G_Card → Option R) (e0 : Int → Bool → List G_Card → Option R), (∀ a c, e0 a false c = z a) →
  Q_Lines_Q_CardsRead_1bn_L2 I_Q_Lines_Q_CardsRead_1bn n t (i : Int) acc e0 e0 e2 = match goQ lineK n i t acc with | .inl j => z (j : Int) | .inr a => e2 a
 | 0, _, _, _, h, _, _, _, _, _, _, _, _ => by omega
 | n + 1, i, t, acc, h, hl, ha, hi, R, z, e2, e0, hz => by
  rw [Q_Lines_Q_CardsRead_1bn_L2, goQ]
  cases ht : t == [] with
  | true => rfl
  | false =>
   have hne : t ≠ [] := beq_eq_false_iff_ne.1 ht
   have hpos := List.length_pos_iff.2 hne
   have hcl := cutB_len 10 t
   have w1 : ∀ k : List UInt8 → List UInt8 → Bool → Option R, I_Q_Lines_Q_CardsRead_1bn.strings_Cut t [10] k = k (cutB 10 t).1 (cutB 10 t).2.1 (cutB 10 t).2.2 := fun k => Cut_g 10 (by omega) R k
   have w2 : ∀ k : Bool → List G_Card → Option R, I_Q_Lines_Q_CardsRead_1bn.Q_CardsRead_1_ba1 (cutB 10 t).1 acc k = k (lineK (cutB 10 t).1).isSome (accK (cutB 10 t).1 acc) := fun k => Q_CardsRead_1_g (by omega) (by omega) R k
   rw [Bool.not_false, cond_true, w1, w2]
   simp only [Bool.false_eq_true, if_false]
   cases hc : (cutB 10 t).2.2 with
   | false => rw [Bool.not_false, cond_true, if_pos rfl]; exact hz _ _
   | true =>
    have hcl2 := hcl.2 hc
    rw [Bool.not_true, cond_false, if_neg (by decide)]
    cases hL : lineK (cutB 10 t).1 with
    | none => exact hz _ _
    | some c =>
     rw [accK_some hL, Option.isSome_some, Bool.not_true, cond_false, w64_succ (show i < 4611686018427387904 by omega)]
     exact Q_LinesK_loop n (i + 1) (cutB 10 t).2.1 (acc ++ [c]) (by omega) (by omega) (by simp; omega) (by omega) R z e2 e0 hz
theorem fine_lineK {l : List UInt8} (hl : l.length ≤ 900000) (ha : ascB l) {c : G_Card} (h : lineK l = some c) : FineKW c := by
 have hc := lineK_is h
 have hw := words_len (l := l) (by omega)
 have hm := splitG_mem 32 l
 subst hc
 unfold lineK at h
 rcases fiveK (ws := splitG 32 l) with ⟨h1, h2⟩ | ⟨w0, w1, w2, w3, w4, e⟩
 ·rw [h2, Bool.and_false] at h; cases h
 ·rw [e] at hw hm ⊢
  have hid := idxG_ge w1 kindS
  have hid2 := idxG_ge w4 modesS
  have hml : modesS.length = 4 := rfl
  have hkl : kindS.length = 4 := rfl
  rw [hkl] at hid
  rw [hml] at hid2
  refine ⟨wide_num w0, ⟨?_, ?_⟩, ⟨?_, ?_⟩, hw w2 (by simp), fun x hx => ha x (hm w2 (by simp) x hx).1, hw w3 (by simp)⟩
  ·show _ ≤ idxG w1 kindS
   omega
  ·show idxG w1 kindS ≤ _
   omega
  ·show _ ≤ idxG w4 modesS
   omega
  ·show idxG w4 modesS ≤ _
   omega
noncomputable def readK (s : List UInt8) : List G_Card × Int × Int := if s.length > 200000 then ([], 0, 2) else match goG lineK (endG s) 0 (linesG s) [] with
 | .inl j => ([], (j : Int), 9)
 | .inr a => if faultK a != 0 then ([], 0, faultK a) else (a, 0, 0)
theorem readK_fine {s : List UInt8} (ha : ascB s) (hl : s.length ≤ 200000) {a : List G_Card} (h : goG lineK (endG s) 0 (linesG s) [] = .inr a) : (∀ c ∈ a, FineKW c) ∧ a.length ≤ 900000 := by
 have hm := linesG_mem s
 have hn := linesG_len s
 have := goG_all lineK FineKW (endG s) (linesG s) 0 [] a (fun l hL c hc => fine_lineK (by have := (hm l hL).1; omega) (fun x hx => ha x ((hm l hL).2 x hx)) hc) (fun c hc => by cases hc) h
 exact ⟨this.1, by have := this.2; simp only [List.length_nil] at this; omega⟩
theorem readK_big {s : List UInt8} (hl : s.length > 200000) : readK s = ([], 0, 2) := by unfold readK; rw [if_pos hl]
theorem readK_inl {s : List UInt8} (hl : ¬ s.length > 200000) {j : Nat} (hg : goG lineK (endG s) 0 (linesG s) [] = .inl j) : readK s = ([], (j : Int), 9) := by unfold readK; rw [if_neg hl, hg]
theorem readK_inr {s : List UInt8} (hl : ¬ s.length > 200000) {a : List G_Card} (hg : goG lineK (endG s) 0 (linesG s) [] = .inr a) : readK s = if faultK a != 0 then ([], 0, faultK a) else (a, 0, 0) := by unfold readK; rw [if_neg hl, hg]
theorem club_Read_g {s : List UInt8} (ha : ascB s) (R : Type) (k : List G_Card → Int → Int → Option R) : club_Read s k = k (readK s).1 (readK s).2.1 (readK s).2.2 := by
 show club_Read_ I_club_Read s k = _
 unfold club_Read_
 by_cases hl : s.length > 200000
 ·rw [decide_eq_true (show (s.length : Int) > 200000 by omega), readK_big hl]; rfl
 ·have hm := linesG_mem s
  have hn := linesG_len s
  have w1 : ∀ k : List (List UInt8) → Bool → Option R, I_club_Read.kit_Lines s k = k (linesG s) (endG s) := fun k => kit_Lines_g (by omega) R k
  rw [decide_eq_false (show ¬ (s.length : Int) > 200000 by omega), cond_false, w1]
  refine (club_Read_loop (linesG s) (endG s) (fun l h => by have := (hm l h).1; omega) (by omega) (linesG s) NN 0 [] rfl (by have := NN_ok; omega) (Nat.zero_le _) R (fun a b => k [] a b) _).trans ?_
  cases hg : goG lineK (endG s) 0 (linesG s) [] with
  | inl j => rw [readK_inl hl hg]
  | inr a =>
   obtain ⟨f1, f2⟩ := readK_fine ha (by omega) hg
   have w2 : ∀ k : Int → Option R, I_club_Read.club_CheckCards a k = k (faultK a) := fun k => club_CheckCards_W f1 (by omega) R k
   show I_club_Read.club_CheckCards a _ = _
   rw [w2, readK_inr hl hg]
   cases faultK a != 0 <;> rfl
theorem Q_CardsRead_g {s : List UInt8} (ha : ascB s) (R : Type) (k : List G_Card → Int → Int → Option R) : Q_CardsRead s k = k (readK s).1 (readK s).2.1 (readK s).2.2 := by
 show Q_CardsRead_ I_Q_CardsRead s k = _
 unfold Q_CardsRead_
 by_cases hl : s.length > 200000
 ·rw [decide_eq_true (show (s.length : Int) > 200000 by omega), readK_big hl]; rfl
 ·rw [decide_eq_false (show ¬ (s.length : Int) > 200000 by omega), cond_false]
  have hz := Q_LinesK_loop NN 0 s [] (by have := NN_ok; omega) (by omega) (by simp; omega) (by omega) R (fun a => k [] a 9)
  refine (hz _ _ (fun a c => rfl)).trans ?_
  rw [goQ_G lineK NN 0 s [] (by have := NN_ok; omega)]
  cases hg : goG lineK (endG s) 0 (linesG s) [] with
  | inl j => rw [readK_inl hl hg]
  | inr a =>
   obtain ⟨f1, f2⟩ := readK_fine ha (by omega) hg
   have w2 : ∀ k : Int → Option R, I_Q_CardsRead.Q_CardsFault a k = k (faultK a) := fun k => Q_CardsFault_W f1 (by omega) R k
   show I_Q_CardsRead.Q_CardsFault a _ = _
   rw [w2, readK_inr hl hg]
   cases faultK a != 0 <;> rfl
theorem readK_len {s : List UInt8} (ha : ascB s) : (readK s).1.length ≤ 900000 := by
 by_cases hl : s.length > 200000
 ·rw [readK_big hl]; simp
 ·cases hg : goG lineK (endG s) 0 (linesG s) [] with
  | inl j => rw [readK_inl hl hg]; simp
  | inr a =>
   have := (readK_fine ha (by omega) hg).2
   rw [readK_inr hl hg]
   cases faultK a != 0
   ·exact this
   ·simp
end Go.Am
set_option linter.unusedVariables false
set_option linter.unusedSectionVars false
set_option linter.unusedSimpArgs false
set_option maxRecDepth 100000
namespace Go.Am
open Go Go.Proofs
variable [Fuel]
theorem RightCards_loop (m : Nat) (hm : m ≤ 20) : ∀ (j n i : Nat) (b : Int) (s : G_Stream), i + j = 5 → j < n → SOk b s → b + 700 * (j : Int) ≤ 900000 →
  ∃ (r : List G_Card) (s' : G_Stream), SOk (b + 700 * (j : Int)) s' ∧ r.length ≤ m ∧ (∀ c ∈ r, FineK c) ∧ faultK r = 0 ∧ ∀ (R : Type) (k : List G_Card → G_Stream → Option R), Stream_RightCards_L2 I_Stream_RightCards n (m : Int) (i : Int) s (fun e12 e13 => k e13 e12) (fun e14 => k [] e14) = k r s'
 | _, 0, _, _, _, _, h, _, _ => by omega
 | 0, n + 1, i, b, s, hi, _, hs, hb => ⟨[], s, hs.mono (by omega), by simp, (fun c h => by cases h), rfl, fun R k => by rw [Stream_RightCards_L2, decide_eq_false (by omega)]; rfl⟩
 | j + 1, n + 1, i, b, s, hi, hn, hs, hb => by
  obtain ⟨r, s1, z1, l1, f1, e1⟩ := Stream_Cards_gives hs (by omega) m hm
  have hm' : (m : Int) ≤ 20 := by omega
  have e1' : ∀ {R : Type} (k : List G_Card → G_Stream → Option R), I_Stream_RightCards.Stream_Cards s (m : Int) k = k r s1 := fun k => e1 _ k
  have hq : ∀ {R : Type} (k : Int → Option R), I_Stream_RightCards.Q_CardsFault r k = k (faultK r) := fun k => Q_CardsFault_is f1 (by omega) _ k
  by_cases h0 : faultK r = 0
  ·refine ⟨r, s1, z1.mono (by omega), l1, f1, h0, fun R k => ?_⟩
   rw [Stream_RightCards_L2, decide_eq_true (by omega)]
   simp only [cond_true, e1', hq, h0, beq_self_eq_true]
  ·obtain ⟨r', s', g1, g2, g3, g4, g5⟩ := RightCards_loop m hm j n (i + 1) (b + 700) s1 (by omega) (by omega) (z1.mono (by omega)) (by omega)
   refine ⟨r', s', g1.mono (by omega), g2, g3, g4, fun R k => ?_⟩
   rw [Stream_RightCards_L2, decide_eq_true (by omega)]
   simp only [cond_true, e1', hq, beq_eq_false_iff_ne.2 h0, cond_false, w64_succ (show i < 4611686018427387904 by omega), g5]
theorem RightCards_gives {b : Int} {s : G_Stream} (hs : SOk b s) (hb : b ≤ 100000) (m : Nat) (hm : m ≤ 20) :
  ∃ (r : List G_Card) (s' : G_Stream), SOk (b + 3500) s' ∧ r.length ≤ m ∧ (∀ c ∈ r, FineK c) ∧ faultK r = 0 ∧ ∀ (R : Type) (k : List G_Card → G_Stream → Option R), Stream_RightCards s (m : Int) k = k r s' := by
 obtain ⟨r, s', g1, g2, g3, g4, g5⟩ := RightCards_loop m hm 5 NN 0 b s (by omega) (by have := NN_ok; omega) hs (by omega)
 exact ⟨r, s', g1.mono (by omega), g2, g3, g4, fun R k => g5 R k⟩
theorem chkK_kind {c : G_Card} (h : chkK c = 0) : 1 ≤ c.f_Kind ∧ c.f_Kind ≤ 3 := by
 unfold chkK at h
 cases h1 : inB c.f_Kind 1 3 with
 | true => exact inB_is.1 h1
 | false => rw [h1] at h; revert h; cases momB c.f_At <;> simp
def wordIn (ws : List (List UInt8)) (m : Int) : List UInt8 := (ws[m.toNat]?).getD []
theorem wordIn_short {ws : List (List UInt8)} (h : ∀ s ∈ ws, s.length ≤ 100 ∧ ∀ x ∈ s, x.toNat < 128) (m : Int) : (wordIn ws m).length ≤ 100 ∧ ascB (wordIn ws m) := by
 unfold wordIn
 cases hm : ws[m.toNat]? with
 | none => exact ⟨by simp, fun x hx => by cases hx⟩
 | some s => exact h s (List.mem_of_getElem? hm)
theorem wordIn_at {ws : List (List UInt8)} (hl : ws.length = 4) {m : Int} (h : 0 ≤ m ∧ m ≤ 3) (R : Type) (k : List UInt8 → Option R) : inr ws m (at_ ws m k) = k (wordIn ws m) := by
 rw [inr_int h.1 (by rw [hl]; omega)]
 unfold at_ wordIn
 obtain ⟨s, hs⟩ : ∃ s, ws[m.toNat]? = some s := ⟨_, List.getElem?_eq_getElem (by rw [hl]; omega)⟩
 rw [hs]; rfl
def wordsK (c : G_Card) : List (List UInt8) := [Lib.itoa c.f_At, wordIn kindS c.f_Kind, c.f_Call, c.f_Band, wordIn modesS c.f_Mode]
def lineKs (c : G_Card) : List UInt8 := Lib.join (wordsK c) [32]
structure ShortK (c : G_Card) : Prop where
 at1 : Wide c.f_At
 kind : 0 ≤ c.f_Kind ∧ c.f_Kind ≤ 3
 mode : 0 ≤ c.f_Mode ∧ c.f_Mode ≤ 3
 call : c.f_Call.length ≤ 100 ∧ ascB c.f_Call
 band : c.f_Band.length ≤ 100 ∧ ascB c.f_Band
theorem short_rightK {d : List G_Card} (hf : ∀ c ∈ d, FineK c) (h0 : faultK d = 0) : ∀ c ∈ d, ShortK c := fun c hc => by
 have hk : ∀ s ∈ keysL, s.length ≤ 100 ∧ ∀ x ∈ s, x.toNat < 128 := by decide
 have hcl : ∀ s ∈ callsL, s.length ≤ 100 ∧ ∀ x ∈ s, x.toNat < 128 := by decide
 have h := hf c hc
 have a := h.at1
 have m1 := chkK_mode (faultK_chk h0 c hc)
 have m2 := chkK_kind (faultK_chk h0 c hc)
 exact ⟨⟨by omega, by omega⟩, ⟨by omega, by omega⟩, ⟨by omega, by omega⟩, hcl _ h.call, hk _ h.band⟩
theorem wordsK_short {c : G_Card} (h : ShortK c) : ∀ w ∈ wordsK c, w.length ≤ 100 ∧ ascB w := by
 intro w hw
 have i1 := itoa_len h.at1
 unfold wordsK at hw
 simp only [List.mem_cons, List.not_mem_nil, or_false] at hw
 rcases hw with rfl | rfl | rfl | rfl | rfl
 ·exact ⟨by omega, itoa_asc _⟩
 ·exact wordIn_short (by decide) _
 ·exact h.call
 ·exact h.band
 ·exact wordIn_short (by decide) _
theorem lineKs_short {c : G_Card} (h : ShortK c) : (lineKs c).length ≤ 900 ∧ ascB (lineKs c) := by
 have hw := wordsK_short h
 have := join_len (ws := wordsK c) (sep := [32]) (n := 100) fun w hh => (hw w hh).1
 have e : (wordsK c).length = 5 := rfl
 rw [e] at this
 exact ⟨by unfold lineKs; simp at this; omega, join_asc (fun w hh => (hw w hh).2) (ascB_one (by decide))⟩
def textK : List G_Card → List UInt8
 | [] => []
 | c :: cs => (lineKs c ++ [10]) ++ textK cs
theorem textK_short : ∀ {d : List G_Card}, (∀ c ∈ d, ShortK c) → (textK d).length ≤ 901 * d.length ∧ ascB (textK d)
 | [], _ => ⟨by simp [textK], fun x hx => by cases hx⟩
 | c :: cs, h => by
  have h1 := lineKs_short (h c (by simp))
  have h2 := textK_short (d := cs) fun c hc => h c (List.mem_cons_of_mem _ hc)
  refine ⟨?_, ascB_app (ascB_app h1.2 (ascB_one (by decide))) h2.2⟩
  show ((lineKs c ++ [10]) ++ textK cs).length ≤ _
  rw [List.length_append, List.length_append, List.length_cons]
  simp only [List.length_cons, List.length_nil]
  omega
theorem CardLines_loop (d : List G_Card) (hd : ∀ c ∈ d, ShortK c) (hl : d.length ≤ 100) : ∀ (xs : List G_Card) (n i : Nat) (acc : List UInt8), d.drop i = xs → xs.length < n → acc.length ≤ 901 * i → ∀ (R : Type) (e0 : List UInt8 → Option R),
  Q_CardLines_L3 I_Q_CardLines n acc d (d.length : Int) (i : Int) e0 = e0 (acc ++ textK xs)
 | _, 0, _, _, _, h, _, _, _ => by omega
 | [], n + 1, i, acc, h, _, _, R, e0 => by rw [Q_CardLines_L3, ge_drop h, textK, List.append_nil]; rfl
 | c :: cs, n + 1, i, acc, h, hn, ha, R, e0 => by
  have h' := drop_cons h
  have hlt := h'.2.1
  have hc := hd c (mem_drop h)
  have hsh := lineKs_short hc
  have hw := wordsK_short hc
  have ih := CardLines_loop d hd hl cs n (i + 1) (acc ++ (lineKs c ++ [10])) h'.2.2.1 (Nat.lt_of_succ_lt_succ (by simpa only [List.length_cons] using hn)) (by simp; omega) R e0
  have a1 : ∀ k : List UInt8 → Option R, I_Q_CardLines.strconv_Itoa c.f_At k = k (Lib.itoa c.f_At) := fun k => Itoa_g hc.at1 R k
  have a2 : ∀ k : List (List UInt8) → Option R, I_Q_CardLines.Q_cardWords k = k kindS := fun k => rfl
  have a3 : ∀ k : List (List UInt8) → Option R, I_Q_CardLines.Q_plainModes k = k modesS := fun k => rfl
  have a4 : ∀ k : List UInt8 → Option R, I_Q_CardLines.strings_Join [Lib.itoa c.f_At, wordIn kindS c.f_Kind, c.f_Call, c.f_Band, wordIn modesS c.f_Mode] [32] k = k (lineKs c) := fun k => Join_g (ws := wordsK c) (by simp [wordsK]) (fun w hh => by have := (hw w hh).1; omega) (by simp) R k
  rw [Q_CardLines_L3, lt_drop h, cond_true, get_drop h, a1, a2, wordIn_at rfl hc.kind, a3, wordIn_at rfl hc.mode, a4, strOk_g (by simp; omega), cond_true, strOk_g (by simp; omega), cond_true, w64_succ (show i < 4611686018427387904 by omega), ih, textK, List.append_assoc]
theorem Q_CardLines_g {d : List G_Card} (hd : ∀ c ∈ d, ShortK c) (hl : d.length ≤ 100) (R : Type) (k : List UInt8 → Option R) : Q_CardLines d k = k (textK d) :=
 CardLines_loop d hd hl d NN 0 [] rfl (by have := NN_ok; omega) (by simp) R (fun e => k e)
theorem clubText_loop (d : List G_Card) (hd : ∀ c ∈ d, ShortK c) (hl : d.length ≤ 100) : ∀ (xs : List G_Card) (n i : Nat) (acc : List UInt8), d.drop i = xs → xs.length < n → acc.length ≤ 901 * i → ∀ (R : Type) (e0 : List UInt8 → Option R),
  club_Text_L6 I_club_Text n d (d.length : Int) (i : Int) acc e0 = e0 (acc ++ textK xs)
 | _, 0, _, _, _, h, _, _, _ => by omega
 | [], n + 1, i, acc, h, _, _, R, e0 => by rw [club_Text_L6, ge_drop h, textK, List.append_nil]; rfl
 | c :: cs, n + 1, i, acc, h, hn, ha, R, e0 => by
  have h' := drop_cons h
  have hlt := h'.2.1
  have hc := hd c (mem_drop h)
  have hsh := lineKs_short hc
  have hw := wordsK_short hc
  have ih := clubText_loop d hd hl cs n (i + 1) (acc ++ (lineKs c ++ [10])) h'.2.2.1 (Nat.lt_of_succ_lt_succ (by simpa only [List.length_cons] using hn)) (by simp; omega) R e0
  have a1 : ∀ k : List UInt8 → Option R, I_club_Text.strconv_Itoa c.f_At k = k (Lib.itoa c.f_At) := fun k => Itoa_g hc.at1 R k
  have a2 : ∀ k : List (List UInt8) → Option R, I_club_Text.club_kindWords k = k kindS := fun k => rfl
  have a3 : ∀ k : List (List UInt8) → Option R, I_club_Text.kit_ModeWords k = k modesS := fun k => rfl
  have a4 : ∀ k : List UInt8 → Option R, I_club_Text.kit_Join [Lib.itoa c.f_At, wordIn kindS c.f_Kind, c.f_Call, c.f_Band, wordIn modesS c.f_Mode] k = k (lineKs c ++ [10]) := fun k => by
   have b1 : ∀ k : List UInt8 → Option R, I_kit_Join.strings_Join (wordsK c) [32] k = k (lineKs c) := fun k => Join_g (ws := wordsK c) (by simp [wordsK]) (fun w hh => by have := (hw w hh).1; omega) (by simp) R k
   show kit_Join_ I_kit_Join (wordsK c) k = _
   unfold kit_Join_
   rw [b1, strOk_g (by simp; omega), cond_true]
  rw [club_Text_L6, lt_drop h, cond_true, get_drop h, a1, a2, wordIn_at rfl hc.kind, a3, wordIn_at rfl hc.mode, a4, decide_eq_true (by simp; omega), cond_true, w64_succ (show i < 4611686018427387904 by omega), ih, textK, List.append_assoc]
theorem club_Text_right {d : List G_Card} (hf : ∀ c ∈ d, FineK c) (hd : ∀ c ∈ d, ShortK c) (hl : d.length ≤ 100) (h0 : faultK d = 0) (R : Type) (k : List UInt8 → Int → Option R) : club_Text d k = k (textK d) 0 := by
 have w1 : ∀ k : Int → Option R, I_club_Text.club_CheckCards d k = k (faultK d) := fun k => club_CheckCards_is hf (by omega) R k
 have hs := textK_short hd
 show club_Text_ I_club_Text d k = _
 unfold club_Text_
 rw [w1, h0]
 refine (clubText_loop d hd hl d NN 0 [] rfl (by have := NN_ok; omega) (by simp) R _).trans ?_
 rw [List.nil_append, decide_eq_false (show ¬ (((textK d).length : Int) > 200000) by omega)]
 rfl
theorem club_Text_wrong {d : List G_Card} (hf : ∀ c ∈ d, FineK c) (hl : d.length ≤ 100) (h0 : faultK d ≠ 0) (R : Type) (k : List UInt8 → Int → Option R) : club_Text d k = k [] (faultK d) := by
 have w1 : ∀ k : Int → Option R, I_club_Text.club_CheckCards d k = k (faultK d) := fun k => club_CheckCards_is hf (by omega) R k
 show club_Text_ I_club_Text d k = _
 unfold club_Text_
 rw [w1, bne_iff_ne.2 h0]
 rfl
theorem CardText_loop : ∀ (j n i : Nat) (t : List UInt8) (b : Int) (s : G_Stream) (q : Nat), i + j = q → q ≤ 5 → j < n → SOk b s → b + 3 * (j : Int) ≤ 900000 → t.length ≤ 9000 + 20 * i → ascB t →
  ∃ r s', r.length ≤ 9000 + 20 * q ∧ ascB r ∧ SOk (b + 3 * (j : Int)) s' ∧ ∀ (R : Type) (e0 : List UInt8 → G_Stream → Option R), Stream_CardText_L3 I_Stream_CardText n t (q : Int) (i : Int) s e0 = e0 r s'
 | _, 0, _, _, _, _, _, _, _, h, _, _, _, _ => by omega
 | 0, n + 1, i, t, b, s, q, hi, _, _, hs, hb, hl, ha => ⟨t, s, by omega, ha, hs.mono (by omega), fun R e0 => by rw [Stream_CardText_L3, decide_eq_false (by omega)]; rfl⟩
 | j + 1, n + 1, i, t, b, s, q, hi, hq, hn, hs, hb, hl, ha => by
  obtain ⟨r, s1, l1, _, a1, z1, e1⟩ := Changed_gives hs (by omega) (t := t) (ls := [32, 10, 48, 45, 57, 99, 115]) (by omega) ha (by simp) (by show ∀ x ∈ _, _; decide)
  obtain ⟨r', s', g1, g2, g3, g4⟩ := CardText_loop j n (i + 1) r (b + 3) s1 q (by omega) hq (by omega) z1 (by omega) (by simp at l1; omega) a1
  refine ⟨r', s', g1, g2, g3.mono (by omega), fun R e0 => ?_⟩
  have e1' : ∀ k : List UInt8 → G_Stream → Option R, I_Stream_CardText.Stream_Changed s t [32, 10, 48, 45, 57, 99, 115] k = k r s1 := fun k => e1 R k
  rw [Stream_CardText_L3, decide_eq_true (by omega), cond_true, e1', w64_succ (show i < 4611686018427387904 by omega), g4]
theorem CardText_gives {b : Int} {s : G_Stream} (hs : SOk b s) (hb : b ≤ 90000) :
  ∃ r s', r.length ≤ 10000 ∧ ascB r ∧ SOk (b + 4000) s' ∧ ∀ (R : Type) (k : List UInt8 → G_Stream → Option R), Stream_CardText s k = k r s' := by
 obtain ⟨n, s1, n1, n2, z1, e1⟩ := Stream_Range_gives hs 0 4 (by omega) (by omega) (by omega) (by omega) (by omega)
 obtain ⟨m, rfl⟩ : ∃ m : Nat, n = (m : Int) := ⟨n.toNat, by omega⟩
 obtain ⟨d, s2, z2, ld, fd, f0, e2⟩ := RightCards_gives z1 (by omega) m (by omega)
 have sd := short_rightK fd f0
 obtain ⟨q, s3, q1, z3, e3⟩ := Stream_Pick_gives z2 [0, 0, 1, 2] (by omega) (by simp) (by simp)
 have q2 : 0 ≤ q ∧ q ≤ 2 := by
  simp only [List.mem_cons, List.not_mem_nil, or_false] at q1
  omega
 obtain ⟨p, rfl⟩ : ∃ p : Nat, q = (p : Int) := ⟨q.toNat, by omega⟩
 have ht := textK_short sd
 obtain ⟨r, s', g1, g2, g3, g4⟩ := CardText_loop p NN 0 (textK d) (b + 1 + 3500 + 1) s3 p (by omega) (by omega) (by have := NN_ok; omega) z3 (by omega) (by omega) ht.2
 refine ⟨r, s', by omega, g2, g3.mono (by omega), fun R k => ?_⟩
 have f1 : ∀ k : Int → G_Stream → Option R, I_Stream_CardText.Stream_Range s 0 4 k = k (m : Int) s1 := fun k => e1 R k
 have f2 : ∀ k : List G_Card → G_Stream → Option R, I_Stream_CardText.Stream_RightCards s1 (m : Int) k = k d s2 := fun k => e2 R k
 have f3 : ∀ k : List UInt8 → Option R, I_Stream_CardText.Q_CardLines d k = k (textK d) := fun k => Q_CardLines_g sd (by omega) R k
 have f4 : ∀ k : Int → G_Stream → Option R, I_Stream_CardText.Stream_Pick s2 [0, 0, 1, 2] k = k (p : Int) s3 := fun k => e3 R k
 show Stream_CardText_ I_Stream_CardText s k = _
 unfold Stream_CardText_
 rw [f1, f2, f3, f4]
 exact g4 R _
theorem law_CardTexts_true (l : List Int) (R : Type) (k : Bool → Option R) : law_CardTexts l k = k true := by
 obtain ⟨n, s1, n1, n2, z1, e1⟩ := Stream_Range_gives (sOk0 l) 0 6 (by omega) (by omega) (by omega) (by omega) (by omega)
 obtain ⟨m, rfl⟩ : ∃ m : Nat, n = (m : Int) := ⟨n.toNat, by omega⟩
 obtain ⟨d, s2, z2, ld, ff, e2⟩ := Stream_Cards_gives z1 (by omega) m (by omega)
 obtain ⟨t, s3, lt, at', z3, e3⟩ := CardText_gives z2 (by omega)
 have hr := readK_len at'
 have g1 : ∀ k : Int → G_Stream → Option R, I_law_CardTexts.Stream_Range ⟨l, 0⟩ 0 6 k = k (m : Int) s1 := fun k => e1 R k
 have g2 : ∀ k : List G_Card → G_Stream → Option R, I_law_CardTexts.Stream_Cards s1 (m : Int) k = k d s2 := fun k => e2 R k
 have g3 : ∀ k : List UInt8 → G_Stream → Option R, I_law_CardTexts.Stream_CardText s2 k = k t s3 := fun k => e3 R k
 have g4 : ∀ k : Int → Option R, I_law_CardTexts.Q_CardsFault d k = k (faultK d) := fun k => Q_CardsFault_is ff (by omega) R k
 have g5 : ∀ k : List G_Card → Int → Int → Option R, I_law_CardTexts.club_Read t k = k (readK t).1 (readK t).2.1 (readK t).2.2 := fun k => club_Read_g at' R k
 have g6 : ∀ k : List G_Card → Int → Int → Option R, I_law_CardTexts.Q_CardsRead t k = k (readK t).1 (readK t).2.1 (readK t).2.2 := fun k => Q_CardsRead_g at' R k
 have g7 : ∀ k : Bool → Option R, I_law_CardTexts.slices_Equal__Card (readK t).1 (readK t).1 k = k true := fun k => equalK_is (by omega) R k
 have g8 : ∀ k : Bool → Option R, I_law_CardTexts.law_joinedClub k = k true := fun k => law_joinedClub_is R k
 show law_CardTexts_ I_law_CardTexts l k = _
 unfold law_CardTexts_
 rw [g1, g2, g3]
 by_cases h0 : faultK d = 0
 ·have sd := short_rightK ff h0
  have g9 : ∀ k : List UInt8 → Int → Option R, I_law_CardTexts.club_Text d k = k (textK d) 0 := fun k => club_Text_right ff sd (by omega) h0 R k
  have g10 : ∀ k : List UInt8 → Option R, I_law_CardTexts.Q_CardLines d k = k (textK d) := fun k => Q_CardLines_g sd (by omega) R k
  rw [g9, g4, h0, beq_self_eq_true, cond_true, g10, g5, g6, cond_true, beq_self_eq_true, cond_true, g7, cond_true, beq_self_eq_true, cond_true, beq_self_eq_true, cond_true, g8]
 ·have g9 : ∀ k : List UInt8 → Int → Option R, I_law_CardTexts.club_Text d k = k [] (faultK d) := fun k => club_Text_wrong ff (by omega) h0 R k
  have h1 : (faultK d == 0) = false := beq_eq_false_iff_ne.2 h0
  rw [g9, g4, h1, cond_false, g5, g6, beq_self_eq_true, cond_true]
  show (bif ([] : List UInt8) == [] then _ else _) = _
  rw [show (([] : List UInt8) == []) = true from rfl, cond_true, g7, cond_true, beq_self_eq_true, cond_true, beq_self_eq_true, cond_true, g8]
end Go.Am
