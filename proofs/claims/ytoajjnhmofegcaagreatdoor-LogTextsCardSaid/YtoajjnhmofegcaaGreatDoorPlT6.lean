/- The plain law, in Lean alone: T6, T7, T8. No condition: lemmas for the claim. -/
import Derived.Test.YtoajjnhmofegcaaGreatDoorPlT4
import Derived.Test.YtoajjnhmofegcaaGreatDoorPlS1
set_option linter.unusedVariables false
set_option linter.unusedSectionVars false
set_option linter.unusedSimpArgs false
set_option maxRecDepth 100000
namespace Go.Am
open Go Go.Proofs
variable [Fuel]
abbrev Wide (x : Int) : Prop := -1000000000000000000 ≤ x ∧ x ≤ 1000000000000000000
theorem sgn_wide {a b : Int} (h1 : Wide a) (h2 : Wide b) : sgn (w64 (a - b)) = cmpI a b := by
 rw [w64_eq (by omega) (by omega)]
 unfold sgn cmpI
 by_cases h1 : a < b
 ·have : a - b < 0 := by omega
  simp [h1, this]
 ·have g1 : ¬ a - b < 0 := by omega
  by_cases h2 : a > b
  ·have : a - b > 0 := by omega
   simp [h1, h2, g1, this]
  ·have : ¬ a - b > 0 := by omega
   simp [h1, h2, g1, this]
theorem kit_IsKey_W {s : List UInt8} (hl : s.length ≤ 1000000) (R : Type) (k : Bool → Option R) : kit_IsKey s k = k (keyB s) := by
 have e : keyB s = keyG s := by unfold keyB; rw [kit_IsKey_g hl]; rfl
 rw [kit_IsKey_g hl, e]
theorem Q_Key_W {s : List UInt8} (hl : s.length ≤ 1000000) (R : Type) (k : Bool → Option R) : Q_Key s k = k (keyB s) := by
 have e : keyB s = keyG s := by unfold keyB; rw [kit_IsKey_g hl]; rfl
 rw [Q_Key_g hl, e]
theorem kit_IsName_W {s : List UInt8} (hl : s.length ≤ 1000000) (R : Type) (k : Bool → Option R) : kit_IsName s k = k (nameB s) := by
 have h1 : ∀ k : Bool → Option R, I_kit_IsName.kit_IsKey s k = k (keyB s) := fun k => kit_IsKey_W hl R k
 show kit_IsName_ I_kit_IsName s k = _
 unfold kit_IsName_ nameB
 rw [h1]
 cases s == [] <;> rfl
theorem call_Is_W {s : List UInt8} (hl : s.length ≤ 1000000) (R : Type) (k : Bool → Option R) : call_Is s k = k (callB s) := by
 have e : callB s = callG s := by unfold callB; rw [call_Is_g hl]; rfl
 rw [call_Is_g hl, e]
theorem Q_Call_W {s : List UInt8} (hs : ascB s) (hl : s.length ≤ 1000000) (R : Type) (k : Bool → Option R) : Q_Call s k = k (callB s) := by
 have e : callB s = callG s := by unfold callB; rw [call_Is_g hl]; rfl
 rw [Q_Call_g hs hl, e]
structure FineW (c : G_Contact) : Prop where
 at1 : Wide c.f_At
 mode : Wide c.f_Mode
 sent : Wide c.f_Sent
 heard : Wide c.f_Heard
 band : c.f_Band.length ≤ 1000000
 call : c.f_Call.length ≤ 1000000
 calla : ascB c.f_Call
 gave : c.f_Gave.length ≤ 1000000
 got : c.f_Got.length ≤ 1000000
theorem ord_wide {x y : G_Contact} (hx : FineW x) (hy : FineW y) : ordC x y = cmpC x y := by
 unfold ordC cmpC
 simp only [orL]
 rw [sgn_wide hx.at1 hy.at1, sgn_wide hx.mode hy.mode]
 rw [ne_cmpI, ne_cb, ne_cb]
 cases h4 : cmpI x.f_Mode y.f_Mode != 0 with
 | true => rfl
 | false =>
  have : cmpI x.f_Mode y.f_Mode = 0 := by simpa using h4
  rw [this]; rfl
theorem Q_ContactOrder_W {x y : G_Contact} (hx : FineW x) (hy : FineW y) (R : Type) (k : Int → Option R) : Q_ContactOrder x y k = k (cmpC x y) := by
 rw [Q_ContactOrder_ord, ord_wide hx hy]
theorem log_CheckContact_W {c : G_Contact} (h : FineW c) (R : Type) (k : Int → Option R) : log_CheckContact c k = k (chk c) := by
 simp only [log_CheckContact, log_CheckContact_, I_log_CheckContact, chk, kit_IsMoment_is, kit_IsMode_is, kit_Outside_is, kit_IsKey_W h.band, call_Is_W h.call, kit_IsName_W h.gave, kit_IsName_W h.got]
 cases momB c.f_At <;> cases inB c.f_Mode 1 3 <;> cases keyB c.f_Band <;> cases callB c.f_Call <;> cases inB c.f_Sent 0 99999 <;> cases inB c.f_Heard 0 99999 <;> cases nameB c.f_Gave <;> cases nameB c.f_Got <;> rfl
theorem Q_ContactFault_W {c : G_Contact} (h : FineW c) (R : Type) (k : Int → Option R) : Q_ContactFault c k = k (chk c) := by
 simp only [Q_ContactFault, Q_ContactFault_, I_Q_ContactFault, chk, Q_Moment_is, Q_in_is, Q_Key_W h.band, Q_Call_W h.calla h.call, Q_Key_W h.gave, Q_Key_W h.got, nameB]
 cases momB c.f_At <;> cases inB c.f_Mode 1 3 <;> cases keyB c.f_Band <;> cases callB c.f_Call <;> cases inB c.f_Sent 0 99999 <;> cases inB c.f_Heard 0 99999 <;> cases c.f_Gave == [] <;> cases keyB c.f_Gave <;> cases c.f_Got == [] <;> cases keyB c.f_Got <;> rfl
theorem log_CheckLog_loopW (d : List G_Contact) (hf : ∀ c ∈ d, FineW c) (hl : d.length ≤ 1000000) : ∀ (xs : List G_Contact) (n i : Nat) (p : Option G_Contact), d.drop i = xs → PrevAt d i p → xs.length < n → ∀ (R : Type) (k : Int → Option R),
  log_CheckLog_L4 I_log_CheckLog n d d (d.length : Int) (i : Int) k (k 0) = k (faultC p xs)
 | _, 0, _, _, _, _, h, _, _ => by omega
 | [], n + 1, i, p, h, _, _, _, _ => by rw [log_CheckLog_L4, ge_drop h]; rfl
 | c :: cs, n + 1, i, p, h, hp, hn, R, k => by
  have h' := drop_cons h
  have ih := log_CheckLog_loopW d hf hl cs n (i + 1) (some c) h'.2.2.1 (prevAt_next h) (by simp at hn; omega) R k
  rw [log_CheckLog_L4, lt_drop h]
  simp only [cond_true, get_drop h, I_log_CheckLog, log_CheckContact_W (hf c (mem_drop h)), log_Compare_is, faultC]
  cases hq : chk c != 0 with
  | true => rfl
  | false =>
   simp only [cond_false]
   cases p with
   | none =>
    rw [decide_eq_false (show ¬ ((i : Int) > 0) by unfold PrevAt at hp; omega), w64_succ (by omega)]
    exact ih
   | some q =>
    obtain ⟨h0, ys, hq⟩ := hp
    rw [decide_eq_true (show ((i : Int) > 0) by omega), prev_drop hq h0 (by omega), w64_succ (by omega)]
    simp only [cond_true]
    cases decide (cmpC q c ≥ 0) with
    | true => rfl
    | false => exact ih
theorem Q_LogFault_loopW (d : List G_Contact) (hf : ∀ c ∈ d, FineW c) (hl : d.length ≤ 1000000) : ∀ (xs : List G_Contact) (n i : Nat) (p : Option G_Contact), d.drop i = xs → PrevAt d i p → xs.length < n → ∀ (R : Type) (k : Int → Option R),
  Q_LogFault_L4 I_Q_LogFault n d d (d.length : Int) (i : Int) k (k 0) = k (faultC p xs)
 | _, 0, _, _, _, _, h, _, _ => by omega
 | [], n + 1, i, p, h, _, _, _, _ => by rw [Q_LogFault_L4, ge_drop h]; rfl
 | c :: cs, n + 1, i, p, h, hp, hn, R, k => by
  have h' := drop_cons h
  have ih := Q_LogFault_loopW d hf hl cs n (i + 1) (some c) h'.2.2.1 (prevAt_next h) (by simp at hn; omega) R k
  rw [Q_LogFault_L4, lt_drop h]
  simp only [cond_true, get_drop h, I_Q_LogFault, Q_ContactFault_W (hf c (mem_drop h)), faultC]
  cases hq : chk c != 0 with
  | true => rfl
  | false =>
   simp only [cond_false]
   cases p with
   | none =>
    rw [decide_eq_false (show ¬ ((i : Int) > 0) by unfold PrevAt at hp; omega), w64_succ (by omega)]
    exact ih
   | some q =>
    obtain ⟨h0, ys, hq⟩ := hp
    rw [decide_eq_true (show ((i : Int) > 0) by omega), prev_drop hq h0 (by omega), w64_succ (by omega)]
    simp only [Q_ContactOrder_W (hf q (mem_drop hq)) (hf c (mem_drop h)), cond_true]
    cases decide (cmpC q c ≥ 0) with
    | true => rfl
    | false => exact ih
theorem log_CheckLog_W {d : List G_Contact} (hf : ∀ c ∈ d, FineW c) (hl : d.length ≤ 1000000) (R : Type) (k : Int → Option R) : log_CheckLog d k = k (faultL d) := by
 have h : log_CheckLog_L4 I_log_CheckLog I_log_CheckLog.N d d (d.length : Int) 0 k (k 0) = k (faultC none d) := log_CheckLog_loopW d hf hl d I_log_CheckLog.N 0 none rfl rfl (show d.length < NN by have := NN_ok; omega) R k
 simp only [log_CheckLog, log_CheckLog_, faultL, h]
 cases decide ((d.length : Int) > 2000) <;> rfl
theorem Q_LogFault_W {d : List G_Contact} (hf : ∀ c ∈ d, FineW c) (hl : d.length ≤ 1000000) (R : Type) (k : Int → Option R) : Q_LogFault d k = k (faultL d) := by
 have h : Q_LogFault_L4 I_Q_LogFault I_Q_LogFault.N d d (d.length : Int) 0 k (k 0) = k (faultC none d) := Q_LogFault_loopW d hf hl d I_Q_LogFault.N 0 none rfl rfl (show d.length < NN by have := NN_ok; omega) R k
 simp only [Q_LogFault, Q_LogFault_, faultL, h]
 cases decide ((d.length : Int) > 2000) <;> rfl
def numB (s : List UInt8) : Bool := (numG s).isSome
theorem numG_B {s : List UInt8} : numG s = if numB s then some (numQ s) else none := by
 unfold numB
 cases h : numG s with
 | none => rfl
 | some n => rw [numQ_G h]; rfl
theorem Numbers_loop (d : List (List UInt8)) (hd : ∀ w ∈ d, w.length ≤ 1000000) (hl : d.length ≤ 1000) : ∀ (xs : List (List UInt8)) (n i : Nat) (acc : List Int), d.drop i = xs → xs.length < n → acc.length ≤ i → ∀ (R : Type) (e0 : Bool → Option R) (e1 : List Int → Option R),
  kit_Numbers_L3 I_kit_Numbers n d (d.length : Int) (i : Int) acc (fun b _ => e0 b) e1 = bif xs.all numB then e1 (acc ++ xs.map numQ) else e0 false
 | _, 0, _, _, _, h, _, _, _, _ => by omega
 | [], n + 1, i, acc, h, _, _, R, e0, e1 => by
  rw [kit_Numbers_L3, ge_drop h, List.map_nil, List.append_nil]; rfl
 | w :: ws, n + 1, i, acc, h, hn, ha, R, e0, e1 => by
  have h' := drop_cons h
  have hlt := h'.2.1
  have ih := Numbers_loop d hd hl ws n (i + 1) (acc ++ [numQ w]) h'.2.2.1 (Nat.lt_of_succ_lt_succ (by simpa only [List.length_cons] using hn)) (by simp; omega) R e0 e1
  have hN : ∀ k : Int → Bool → Option R, I_kit_Numbers.kit_Number w 15 k = (numG w).elim (k 0 false) fun n => k n true := fun k => kit_Number_g (hd w (mem_drop h)) R k
  rw [kit_Numbers_L3, lt_drop h, cond_true, get_drop h, hN, List.all_cons, numG_B]
  cases numB w with
  | false => rfl
  | true =>
   show (bif !true then e0 false else bif decide ((acc.length + [numQ w].length) * 8 ≤ roomBytes') then _ else none) = _
   rw [Bool.not_true, cond_false, room1 acc _ 8 (by omega) (by omega), cond_true, w64_succ (show i < 4611686018427387904 by omega), ih, List.append_assoc]; rfl
theorem kit_Numbers_g {d : List (List UInt8)} (hd : ∀ w ∈ d, w.length ≤ 1000000) (hl : d.length ≤ 1000) (R : Type) (k : List Int → Bool → Option R) : kit_Numbers d k = bif d.all numB then k (d.map numQ) true else k [] false := by
 exact Numbers_loop d hd hl d NN 0 [] rfl (by have := NN_ok; omega) (Nat.zero_le _) R (fun b => k [] b) (fun e => k e true)
theorem QNumbers_loop (d : List (List UInt8)) (hd : ∀ w ∈ d, w.length ≤ 1000000) (hl : d.length ≤ 1000) : ∀ (xs : List (List UInt8)) (n i : Nat) (b : Bool) (acc : List Int), d.drop i = xs → xs.length < n → acc.length ≤ i → ∀ (R : Type) (e0 : Bool → List Int → Option R),
  Q_NumbersIn_L4 I_Q_NumbersIn n 15 b d (d.length : Int) (i : Int) acc e0 = e0 (b && xs.all numB) (acc ++ xs.map numQ)
 | _, 0, _, _, _, _, h, _, _, _ => by omega
 | [], n + 1, i, b, acc, h, _, _, R, e0 => by
  rw [Q_NumbersIn_L4, ge_drop h, List.map_nil, List.append_nil, List.all_nil, Bool.and_true]; rfl
 | w :: ws, n + 1, i, b, acc, h, hn, ha, R, e0 => by
  have h' := drop_cons h
  have hlt := h'.2.1
  have ih := fun b => QNumbers_loop d hd hl ws n (i + 1) b (acc ++ [numQ w]) h'.2.2.1 (Nat.lt_of_succ_lt_succ (by simpa only [List.length_cons] using hn)) (by simp; omega) R e0
  have hN : ∀ k : Int → Bool → Option R, I_Q_NumbersIn.Q_Number w 15 k = k (numQ w) (numB w) := fun k => Q_Number_g (hd w (mem_drop h)) R k
  rw [Q_NumbersIn_L4, lt_drop h, cond_true, get_drop h, hN, room1 acc _ 8 (by omega) (by omega), cond_true, w64_succ (show i < 4611686018427387904 by omega), ih, ih, List.all_cons, List.append_assoc]
  cases b <;> cases numB w <;> rfl
theorem Q_NumbersIn_g {d : List (List UInt8)} (hd : ∀ w ∈ d, w.length ≤ 1000000) (hl : d.length ≤ 1000) (R : Type) (k : List Int → Bool → Option R) : Q_NumbersIn d 15 k = k (d.map numQ) (d.all numB) :=
 QNumbers_loop d hd hl d NN 0 true [] rfl (by have := NN_ok; omega) (Nat.zero_le _) R (fun e15 e16 => k e16 e15)
def modesS : List (List UInt8) := [[], [99, 111, 100, 101], [118, 111, 105, 99, 101], [100, 97, 116, 97]]
def undash (s : List UInt8) : List UInt8 := if s == [45] then [] else s
theorem kit_Undash_g (s : List UInt8) (R : Type) (k : List UInt8 → Option R) : kit_Undash s k = k (undash s) := by
 show kit_Undash_ NN s k = _
 unfold kit_Undash_ undash
 cases s == [45] <;> rfl
theorem Q_undash_g (s : List UInt8) (R : Type) (k : List UInt8 → Option R) : Q_undash s k = k (undash s) := by
 show Q_undash_ NN s k = _
 unfold Q_undash_ undash
 cases s == [45] <;> rfl
def contQ : List (List UInt8) → G_Contact
 | [w0, w1, w2, w3, w4, w5, w6, w7] => ⟨numQ w0, idxG w1 modesS, w2, w3, numQ w4, numQ w6, undash w5, undash w7⟩
 | _ => ⟨0, 0, [], [], 0, 0, [], []⟩
def contB : List (List UInt8) → Bool
 | [w0, w1, w2, w3, w4, w5, w6, w7] => [w0, w4, w6].all numB && decide (idxG w1 modesS > 0)
 | _ => false
theorem eight {ws : List (List UInt8)} : (((ws.length : Int) != 8) = true ∧ contB ws = false ∧ contQ ws = ⟨0, 0, [], [], 0, 0, [], []⟩) ∨ ∃ w0 w1 w2 w3 w4 w5 w6 w7, ws = [w0, w1, w2, w3, w4, w5, w6, w7] := by
 match ws with
 | [w0, w1, w2, w3, w4, w5, w6, w7] => exact .inr ⟨w0, w1, w2, w3, w4, w5, w6, w7, rfl⟩
 | [] => exact .inl ⟨rfl, rfl, rfl⟩
 | [_] => exact .inl ⟨rfl, rfl, rfl⟩
 | [_, _] => exact .inl ⟨rfl, rfl, rfl⟩
 | [_, _, _] => exact .inl ⟨rfl, rfl, rfl⟩
 | [_, _, _, _] => exact .inl ⟨rfl, rfl, rfl⟩
 | [_, _, _, _, _] => exact .inl ⟨rfl, rfl, rfl⟩
 | [_, _, _, _, _, _] => exact .inl ⟨rfl, rfl, rfl⟩
 | [_, _, _, _, _, _, _] => exact .inl ⟨rfl, rfl, rfl⟩
 | _ :: _ :: _ :: _ :: _ :: _ :: _ :: _ :: _ :: l => exact .inl ⟨by rw [bne_iff_ne]; simp only [List.length_cons]; omega, rfl, rfl⟩
theorem log_ReadWords_g {ws : List (List UInt8)} (hd : ∀ w ∈ ws, w.length ≤ 1000000) (R : Type) (k : G_Contact → Bool → Option R) : log_ReadWords ws k = bif contB ws then k (contQ ws) true else k ⟨0, 0, [], [], 0, 0, [], []⟩ false := by
 show log_ReadWords_ I_log_ReadWords ws k = _
 unfold log_ReadWords_
 rcases eight (ws := ws) with ⟨h1, h2, h3⟩ | ⟨w0, w1, w2, w3, w4, w5, w6, w7, rfl⟩
 ·rw [h1, h2]; rfl
 ·have n1 : ∀ k : Int → Option R, I_log_ReadWords.slices_Index__string modesS w1 k = k (idxG w1 modesS) := fun k => slices_Index_g w1 modesS (by decide) R k
  have n2 : ∀ k : List Int → Bool → Option R, I_log_ReadWords.kit_Numbers [w0, w4, w6] k = bif [w0, w4, w6].all numB then k [numQ w0, numQ w4, numQ w6] true else k [] false := fun k => kit_Numbers_g (d := [w0, w4, w6]) (fun w hw => by
   simp only [List.mem_cons, List.not_mem_nil, or_false] at hw
   rcases hw with rfl | rfl | rfl <;> exact hd _ (by simp)) (by simp) R k
  have n3 : ∀ k : List UInt8 → Option R, I_log_ReadWords.kit_Undash w5 k = k (undash w5) := fun k => kit_Undash_g w5 R k
  have n4 : ∀ k : List UInt8 → Option R, I_log_ReadWords.kit_Undash w7 k = k (undash w7) := fun k => kit_Undash_g w7 R k
  show I_log_ReadWords.slices_Index__string modesS w1 (fun r4 => I_log_ReadWords.kit_Numbers [w0, w4, w6] fun r8 r9 => _) = _
  rw [n1, n2]
  have eB : contB [w0, w1, w2, w3, w4, w5, w6, w7] = ([w0, w4, w6].all numB && decide (idxG w1 modesS > 0)) := rfl
  have eQ : contQ [w0, w1, w2, w3, w4, w5, w6, w7] = ⟨numQ w0, idxG w1 modesS, w2, w3, numQ w4, numQ w6, undash w5, undash w7⟩ := rfl
  rw [eB, eQ]
  cases [w0, w4, w6].all numB with
  | false => rfl
  | true =>
   rw [cond_true, Bool.not_true, cond_false, Bool.true_and]
   have hidx : decide (idxG w1 modesS > 0) = !decide (idxG w1 modesS < 1) := by
    by_cases h : idxG w1 modesS < 1
    ·rw [decide_eq_true h, decide_eq_false (by omega)]; rfl
    ·rw [decide_eq_false h, decide_eq_true (by omega)]; rfl
   rw [hidx]
   cases decide (idxG w1 modesS < 1) with
   | true => rfl
   | false =>
    show I_log_ReadWords.kit_Undash w5 (fun r17 => I_log_ReadWords.kit_Undash w7 fun r18 => k ⟨numQ w0, idxG w1 modesS, w2, w3, numQ w4, numQ w6, r17, r18⟩ true) = _
    rw [n3, n4]; rfl
theorem Q_ContactIn_g {ws : List (List UInt8)} (hd : ∀ w ∈ ws, w.length ≤ 1000000) (R : Type) (k : G_Contact → Bool → Option R) : Q_ContactIn ws k = k (contQ ws) (contB ws) := by
 show Q_ContactIn_ I_Q_ContactIn ws k = _
 unfold Q_ContactIn_
 rcases eight (ws := ws) with ⟨h1, h2, h3⟩ | ⟨w0, w1, w2, w3, w4, w5, w6, w7, rfl⟩
 ·rw [h1, h2, h3]; rfl
 ·have n1 : ∀ k : Int → Option R, I_Q_ContactIn.slices_Index__string modesS w1 k = k (idxG w1 modesS) := fun k => slices_Index_g w1 modesS (by decide) R k
  have n2 : ∀ k : List Int → Bool → Option R, I_Q_ContactIn.Q_NumbersIn [w0, w4, w6] 15 k = k [numQ w0, numQ w4, numQ w6] ([w0, w4, w6].all numB) := fun k => Q_NumbersIn_g (d := [w0, w4, w6]) (fun w hw => by
   simp only [List.mem_cons, List.not_mem_nil, or_false] at hw
   rcases hw with rfl | rfl | rfl <;> exact hd _ (by simp)) (by simp) R k
  have n3 : ∀ k : List UInt8 → Option R, I_Q_ContactIn.Q_undash w5 k = k (undash w5) := fun k => Q_undash_g w5 R k
  have n4 : ∀ k : List UInt8 → Option R, I_Q_ContactIn.Q_undash w7 k = k (undash w7) := fun k => Q_undash_g w7 R k
  show I_Q_ContactIn.Q_NumbersIn [w0, w4, w6] 15 (fun r5 r6 => _) = _
  rw [n2]
  show I_Q_ContactIn.slices_Index__string modesS w1 (fun r16 => I_Q_ContactIn.Q_undash w5 fun r17 => I_Q_ContactIn.Q_undash w7 fun r18 => bif [w0, w4, w6].all numB then k ⟨numQ w0, r16, w2, w3, numQ w4, numQ w6, r17, r18⟩ (decide (r16 > 0)) else k ⟨numQ w0, r16, w2, w3, numQ w4, numQ w6, r17, r18⟩ false) = _
  rw [n1, n3, n4]
  have eB : contB [w0, w1, w2, w3, w4, w5, w6, w7] = ([w0, w4, w6].all numB && decide (idxG w1 modesS > 0)) := rfl
  have eQ : contQ [w0, w1, w2, w3, w4, w5, w6, w7] = ⟨numQ w0, idxG w1 modesS, w2, w3, numQ w4, numQ w6, undash w5, undash w7⟩ := rfl
  rw [eB, eQ]
  cases [w0, w4, w6].all numB <;> rfl
def lineG (l : List UInt8) : Option G_Contact := if wordsOk l && contB (splitG 32 l) then some (contQ (splitG 32 l)) else none
theorem words_len {l : List UInt8} (hl : l.length ≤ 1000000) : ∀ w ∈ splitG 32 l, w.length ≤ 1000000 := fun w hw => by have := splitG_len 32 l w hw; omega
theorem log_Read_loop (d : List (List UInt8)) (ended : Bool) (hd : ∀ l ∈ d, l.length ≤ 900000) (hl : d.length ≤ 900000) : ∀ (xs : List (List UInt8)) (n i : Nat) (acc : List G_Contact), d.drop i = xs → xs.length < n → acc.length ≤ i → ∀ (R : Type) (e0 : Int → Int → Option R) (e1 : List G_Contact → Option R),
  log_Read_L6 I_log_Read n ended (d.length : Int) (i : Int) d acc (fun a b _ => e0 a b) e1 = match goG lineG ended i xs acc with | .inl j => e0 (j : Int) 9 | .inr a => e1 a
 | _, 0, _, _, _, h, _, _, _, _ => by omega
 | [], n + 1, i, acc, h, _, _, R, e0, e1 => by rw [log_Read_L6, ge_drop h]; rfl
 | l :: ls, n + 1, i, acc, h, hn, ha, R, e0, e1 => by
  have h' := drop_cons h
  have hlt := h'.2.1
  have hll := hd l (mem_drop h)
  have ih := fun c hc => log_Read_loop d ended hd hl ls n (i + 1) (acc ++ [c]) h'.2.2.1 (Nat.lt_of_succ_lt_succ (by simpa only [List.length_cons] using hn)) hc R e0 e1
  have w1 : ∀ k : List (List UInt8) → Bool → Option R, I_log_Read.kit_Words l k = bif wordsOk l then k (splitG 32 l) true else k [] false := fun k => kit_Words_g hll R k
  have w2 : ∀ k : G_Contact → Bool → Option R, I_log_Read.log_ReadWords (splitG 32 l) k = bif contB (splitG 32 l) then k (contQ (splitG 32 l)) true else k ⟨0, 0, [], [], 0, 0, [], []⟩ false := fun k => log_ReadWords_g (words_len (by omega)) R k
  have hlast : ((i : Int) == w64 ((d.length : Int) - 1)) = (ls == []) := by
   rw [w64_pred (by omega) (by omega)]
   have e := h'.2.2.2
   cases ls with
   | nil => rw [List.length_nil] at e; rw [show d.length - 1 = i by omega]; simp
   | cons a b =>
    rw [List.length_cons] at e
    have : ((i : Int) == ((d.length - 1 : Nat) : Int)) = false := beq_eq_false_iff_ne.2 (by omega)
    rw [this]; rfl
  rw [log_Read_L6, lt_drop h, cond_true, inr_drop h, at_nat h'.1, w1, goG_cons]
  unfold lineG
  cases hw : wordsOk l with
  | false =>
   rw [cond_false, Bool.not_false, cond_true, Bool.false_and]
   cases !ended && ls == [] <;> rfl
  | true =>
   rw [cond_true, Bool.not_true, cond_false, hlast, w2]
   cases hc : contB (splitG 32 l) with
   | false =>
    cases ended <;> cases ls == [] <;> rfl
   | true =>
    rw [cond_true, Bool.not_true, cond_false, room1 acc _ 96 (by omega) (by omega), cond_true, w64_succ (show i < 4611686018427387904 by omega), ih _ (by simp; omega)]
    cases ended <;> cases ls == [] <;> rfl
theorem Q_LogRead_1_g {l : List UInt8} {acc : List G_Contact} (hl : l.length ≤ 900000) (ha : acc.length ≤ 1000000) (R : Type) (k : Bool → List G_Contact → Option R) : Q_LogRead_1_ba1 l acc k = k (lineG l).isSome (acc ++ [contQ (splitG 32 l)]) := by
 have w1 : ∀ k : List (List UInt8) → Bool → Option R, I_Q_LogRead_1_ba1.Q_Words l k = k (splitG 32 l) (wordsOk l) := fun k => Q_Words_g hl R k
 have w2 : ∀ k : G_Contact → Bool → Option R, I_Q_LogRead_1_ba1.Q_ContactIn (splitG 32 l) k = k (contQ (splitG 32 l)) (contB (splitG 32 l)) := fun k => Q_ContactIn_g (words_len (by omega)) R k
 show I_Q_LogRead_1_ba1.Q_Words l _ = _
 rw [w1, w2, room1 acc _ 96 (by omega) (by omega), cond_true]
 unfold lineG
 cases wordsOk l <;> cases contB (splitG 32 l) <;> rfl
theorem lineG_is {l : List UInt8} {c : G_Contact} (h : lineG l = some c) : c = contQ (splitG 32 l) := by
 unfold lineG at h
 split at h
 ·exact (Option.some.inj h).symm
 ·cases h
theorem Q_Lines_loop : ∀ (n i : Nat) (t : List UInt8) (acc : List G_Contact), t.length < n → t.length ≤ 900000 → acc.length + t.length ≤ 900000 → i + t.length ≤ 900000 → ∀ (R : Type) (z : Int → Option R) (e2 : List G_Contact → Option R) (e0 : Int → Bool → List G_Contact → Option R), (∀ a c, e0 a false c = z a) →
  Q_Lines_Q_LogRead_1bn_L2 I_Q_Lines_Q_LogRead_1bn n t (i : Int) acc e0 e0 e2 = match goQ lineG n i t acc with | .inl j => z (j : Int) | .inr a => e2 a
 | 0, _, _, _, h, _, _, _, _, _, _, _, _ => by omega
 | n + 1, i, t, acc, h, hl, ha, hi, R, z, e2, e0, hz => by
  rw [Q_Lines_Q_LogRead_1bn_L2, goQ]
  cases ht : t == [] with
  | true => rfl
  | false =>
   have hne : t ≠ [] := beq_eq_false_iff_ne.1 ht
   have hpos := List.length_pos_iff.2 hne
   have hcl := cutB_len 10 t
   have w1 : ∀ k : List UInt8 → List UInt8 → Bool → Option R, I_Q_Lines_Q_LogRead_1bn.strings_Cut t [10] k = k (cutB 10 t).1 (cutB 10 t).2.1 (cutB 10 t).2.2 := fun k => Cut_g 10 (by omega) R k
   have w2 : ∀ k : Bool → List G_Contact → Option R, I_Q_Lines_Q_LogRead_1bn.Q_LogRead_1_ba1 (cutB 10 t).1 acc k = k (lineG (cutB 10 t).1).isSome (acc ++ [contQ (splitG 32 (cutB 10 t).1)]) := fun k => Q_LogRead_1_g (by omega) (by omega) R k
   rw [Bool.not_false, cond_true, w1, w2]
   simp only [Bool.false_eq_true, if_false]
   cases hc : (cutB 10 t).2.2 with
   | false => rw [Bool.not_false, cond_true, if_pos rfl]; exact hz _ _
   | true =>
    have hcl2 := hcl.2 hc
    rw [Bool.not_true, cond_false, if_neg (by decide)]
    cases hL : lineG (cutB 10 t).1 with
    | none => exact hz _ _
    | some c =>
     rw [← lineG_is hL]
     rw [Option.isSome_some, Bool.not_true, cond_false, w64_succ (show i < 4611686018427387904 by omega)]
     exact Q_Lines_loop n (i + 1) (cutB 10 t).2.1 (acc ++ [c]) (by omega) (by omega) (by simp; omega) (by omega) R z e2 e0 hz
theorem wide_num (s : List UInt8) : Wide (numQ s) := by
 unfold numQ
 cases hok : numOk s with
 | false => exact ⟨by simp, by simp⟩
 | true =>
  have h := hok
  unfold numOk at h
  rw [Bool.and_eq_true, Bool.and_eq_true] at h
  have h15 := of_decide_eq_true h.2.1
  have hl := numT_len s
  obtain ⟨m, hm⟩ := dec_all (numT s) 0 h.2.2
  have ha := atoi_s hok hm
  have := Lib.decFrom_lt18 hm (by omega)
  rw [if_pos rfl, ha, Option.getD_some]
  cases numNeg s
  ·exact ⟨by simp; try omega, by simp; try omega⟩
  ·exact ⟨by simp; try omega, by simp; try omega⟩
theorem fine_line {l : List UInt8} (hl : l.length ≤ 900000) (ha : ascB l) {c : G_Contact} (h : lineG l = some c) : FineW c := by
 have hc := lineG_is h
 have hw := words_len (l := l) (by omega)
 have hm := splitG_mem 32 l
 subst hc
 rcases eight (ws := splitG 32 l) with ⟨h1, h2, h3⟩ | ⟨w0, w1, w2, w3, w4, w5, w6, w7, e⟩
 ·rw [h3]
  exact ⟨⟨by simp, by simp⟩, ⟨by simp, by simp⟩, ⟨by simp, by simp⟩, ⟨by simp, by simp⟩, by simp, by simp, (fun x hx => by cases hx), by simp, by simp⟩
 ·rw [e] at hw hm ⊢
  have hid := idxG_ge w1 modesS
  have hml : modesS.length = 4 := rfl
  refine ⟨wide_num w0, ⟨?_, ?_⟩, wide_num w4, wide_num w6, hw w2 (by simp), hw w3 (by simp), fun x hx => ha x (hm w3 (by simp) x hx).1, ?_, ?_⟩
  ·show _ ≤ idxG w1 modesS
   omega
  ·show idxG w1 modesS ≤ _
   rw [hml] at hid
   omega
  ·show (undash w5).length ≤ 1000000
   have := hw w5 (by simp)
   unfold undash
   split
   ·simp
   ·exact this
  ·show (undash w7).length ≤ 1000000
   have := hw w7 (by simp)
   unfold undash
   split
   ·simp
   ·exact this
theorem goG_all {α : Type} (f : List UInt8 → Option α) (P : α → Prop) (ended : Bool) : ∀ (ls : List (List UInt8)) (i : Nat) (acc r : List α), (∀ l ∈ ls, ∀ c, f l = some c → P c) → (∀ c ∈ acc, P c) → goG f ended i ls acc = .inr r → (∀ c ∈ r, P c) ∧ r.length ≤ acc.length + ls.length
 | [], i, acc, r, _, ha, h => by
  have : acc = r := Sum.inr.inj h
  subst this
  exact ⟨ha, Nat.le_refl _⟩
 | l :: ls, i, acc, r, hf, ha, h => by
  rw [goG_cons] at h
  cases hc : (if !ended && ls == [] then none else f l) with
  | none => rw [hc] at h; cases h
  | some a =>
   rw [hc] at h
   have hfa : f l = some a := by
    split at hc
    ·cases hc
    ·exact hc
   have := goG_all f P ended ls (i + 1) (acc ++ [a]) r (fun l' hl' => hf l' (List.mem_cons_of_mem _ hl')) (fun c hcc => by
    rcases List.mem_append.1 hcc with h1 | h1
    ·exact ha c h1
    ·rw [List.mem_singleton.1 h1]; exact hf l (by simp) a hfa) h
   refine ⟨this.1, ?_⟩
   have h2 := this.2
   simp only [List.length_append, List.length_cons, List.length_nil] at h2 ⊢
   omega
noncomputable def readR (s : List UInt8) : List G_Contact × Int × Int := if s.length > 200000 then ([], 0, 2) else match goG lineG (endG s) 0 (linesG s) [] with
 | .inl j => ([], (j : Int), 9)
 | .inr a => if faultL a != 0 then ([], 0, faultL a) else (a, 0, 0)
theorem read_fine {s : List UInt8} (ha : ascB s) (hl : s.length ≤ 200000) {a : List G_Contact} (h : goG lineG (endG s) 0 (linesG s) [] = .inr a) : (∀ c ∈ a, FineW c) ∧ a.length ≤ 900000 := by
 have hm := linesG_mem s
 have hn := linesG_len s
 have := goG_all lineG FineW (endG s) (linesG s) 0 [] a (fun l hL c hc => fine_line (by have := (hm l hL).1; omega) (fun x hx => ha x ((hm l hL).2 x hx)) hc) (fun c hc => by cases hc) h
 exact ⟨this.1, by have := this.2; simp only [List.length_nil] at this; omega⟩
theorem readR_big {s : List UInt8} (hl : s.length > 200000) : readR s = ([], 0, 2) := by unfold readR; rw [if_pos hl]
theorem readR_inl {s : List UInt8} (hl : ¬ s.length > 200000) {j : Nat} (hg : goG lineG (endG s) 0 (linesG s) [] = .inl j) : readR s = ([], (j : Int), 9) := by unfold readR; rw [if_neg hl, hg]
theorem readR_inr {s : List UInt8} (hl : ¬ s.length > 200000) {a : List G_Contact} (hg : goG lineG (endG s) 0 (linesG s) [] = .inr a) : readR s = if faultL a != 0 then ([], 0, faultL a) else (a, 0, 0) := by unfold readR; rw [if_neg hl, hg]
theorem log_Read_g {s : List UInt8} (ha : ascB s) (R : Type) (k : List G_Contact → Int → Int → Option R) : log_Read s k = k (readR s).1 (readR s).2.1 (readR s).2.2 := by
 show log_Read_ I_log_Read s k = _
 unfold log_Read_
 by_cases hl : s.length > 200000
 ·rw [decide_eq_true (show (s.length : Int) > 200000 by omega), readR_big hl]; rfl
 ·have hm := linesG_mem s
  have hn := linesG_len s
  have w1 : ∀ k : List (List UInt8) → Bool → Option R, I_log_Read.kit_Lines s k = k (linesG s) (endG s) := fun k => kit_Lines_g (by omega) R k
  rw [decide_eq_false (show ¬ (s.length : Int) > 200000 by omega), cond_false, w1]
  refine (log_Read_loop (linesG s) (endG s) (fun l h => by have := (hm l h).1; omega) (by omega) (linesG s) NN 0 [] rfl (by have := NN_ok; omega) (Nat.zero_le _) R (fun a b => k [] a b) _).trans ?_
  cases hg : goG lineG (endG s) 0 (linesG s) [] with
  | inl j => rw [readR_inl hl hg]
  | inr a =>
   obtain ⟨f1, f2⟩ := read_fine ha (by omega) hg
   have w2 : ∀ k : Int → Option R, I_log_Read.log_CheckLog a k = k (faultL a) := fun k => log_CheckLog_W f1 (by omega) R k
   show I_log_Read.log_CheckLog a _ = _
   rw [w2, readR_inr hl hg]
   cases faultL a != 0 <;> rfl
theorem Q_LogRead_g {s : List UInt8} (ha : ascB s) (R : Type) (k : List G_Contact → Int → Int → Option R) : Q_LogRead s k = k (readR s).1 (readR s).2.1 (readR s).2.2 := by
 show Q_LogRead_ I_Q_LogRead s k = _
 unfold Q_LogRead_
 by_cases hl : s.length > 200000
 ·rw [decide_eq_true (show (s.length : Int) > 200000 by omega), readR_big hl]; rfl
 ·rw [decide_eq_false (show ¬ (s.length : Int) > 200000 by omega), cond_false]
  have hz := Q_Lines_loop NN 0 s [] (by have := NN_ok; omega) (by omega) (by simp; omega) (by omega) R (fun a => k [] a 9)
  refine (hz _ _ (fun a c => rfl)).trans ?_
  rw [goQ_G lineG NN 0 s [] (by have := NN_ok; omega)]
  cases hg : goG lineG (endG s) 0 (linesG s) [] with
  | inl j => rw [readR_inl hl hg]
  | inr a =>
   obtain ⟨f1, f2⟩ := read_fine ha (by omega) hg
   have w2 : ∀ k : Int → Option R, I_Q_LogRead.Q_LogFault a k = k (faultL a) := fun k => Q_LogFault_W f1 (by omega) R k
   show I_Q_LogRead.Q_LogFault a _ = _
   rw [w2, readR_inr hl hg]
   cases faultL a != 0 <;> rfl
end Go.Am
set_option linter.unusedVariables false
set_option linter.unusedSectionVars false
set_option linter.unusedSimpArgs false
set_option maxRecDepth 100000
namespace Go.Am
open Go Go.Proofs
variable [Fuel]
theorem digs_asc (u : Nat) : ascB (Lib.decDigits u) := by
 induction u using Nat.strongRecOn with
 | _ u ih =>
  intro x hx
  rw [Lib.decDigits] at hx
  have hone : ∀ d, d < 10 → (UInt8.ofNat (48 + d)).toNat < 128 := by decide
  split at hx
  ·rename_i hu
   rw [List.mem_singleton] at hx
   rw [hx]; exact hone u hu
  ·rcases List.mem_append.1 hx with h | h
   ·exact ih (u / 10) (by omega) x h
   ·rw [List.mem_singleton] at h
    rw [h]; exact hone _ (Nat.mod_lt _ (by omega))
theorem itoa_asc (n : Int) : ascB (Lib.itoa n) := by
 unfold Lib.itoa
 split
 ·intro x hx
  rcases List.mem_cons.1 hx with h | h
  ·rw [h]; decide
  ·exact digs_asc _ x h
 ·exact digs_asc _
theorem itoa_len {n : Int} (h : Wide n) : (Lib.itoa n).length ≤ 21 := by
 have hd : ∀ u, u < 10 ^ 20 → (Lib.decDigits u).length ≤ 20 := by
  have : ∀ k u, u < 10 ^ (k + 1) → (Lib.decDigits u).length ≤ k + 1 := by
   intro k
   induction k with
   | zero =>
    intro u hu
    rw [Lib.decDigits, dif_pos (by omega)]; simp
   | succ k ih =>
    intro u hu
    rw [Lib.decDigits]
    split
    ·simp
    ·rw [List.length_append]
     have := ih (u / 10) (by rw [Nat.pow_succ] at hu; omega)
     simp; omega
  exact this 19
 have h20 : (10 : Nat) ^ 20 = 100000000000000000000 := by decide
 unfold Lib.itoa
 split
 ·have := hd n.natAbs (by omega)
  simp; omega
 ·have := hd n.toNat (by omega)
  omega
theorem Itoa_g {n : Int} (h : Wide n) (R : Type) (k : List UInt8 → Option R) : strconv_Itoa n k = k (Lib.itoa n) := by
 show (bif in64 n then k (Lib.itoa n) else none) = _
 have : in64 n = true := by unfold in64; simp; omega
 rw [this]; rfl
theorem lens_le {n : Nat} : ∀ {ws : List (List UInt8)}, (∀ w ∈ ws, w.length ≤ n) → Lib.lens ws ≤ n * ws.length
 | [], _ => by simp [Lib.lens]
 | w :: ws, h => by
  have h1 := h w (by simp)
  have h2 := lens_le (n := n) (ws := ws) fun v hv => h v (List.mem_cons_of_mem _ hv)
  simp only [Lib.lens, List.map_cons, List.sum_cons, List.length_cons] at h2 ⊢
  rw [Nat.mul_succ]
  omega
theorem join_len {n : Nat} {ws : List (List UInt8)} {sep : List UInt8} (h : ∀ w ∈ ws, w.length ≤ n) : (Lib.join ws sep).length ≤ sep.length * ws.length + n * ws.length := by
 cases ws with
 | nil => rw [Lib.join_nil]; simp
 | cons w ws =>
  have := lens_le h
  rw [Lib.join_length]
  have h2 : sep.length * ws.length ≤ sep.length * (w :: ws).length := Nat.mul_le_mul_left _ (by simp)
  omega
theorem join_asc {ws : List (List UInt8)} {sep : List UInt8} (h : ∀ w ∈ ws, ascB w) (hs : ascB sep) : ascB (Lib.join ws sep) := by
 cases ws with
 | nil => rw [Lib.join_nil]; intro x hx; cases hx
 | cons w ws =>
  rw [Lib.join_cons]
  intro x hx
  rcases List.mem_append.1 hx with h1 | h1
  ·exact h w (by simp) x h1
  ·unfold Lib.joinTail at h1
   obtain ⟨l, hl, hxl⟩ := List.mem_flatten.1 h1
   obtain ⟨v, hv, rfl⟩ := List.mem_map.1 hl
   rcases List.mem_append.1 hxl with h2 | h2
   ·exact hs x h2
   ·exact h v (List.mem_cons_of_mem _ hv) x h2
theorem Join_g {ws : List (List UInt8)} {sep : List UInt8} (hl : ws.length ≤ 1000) (hw : ∀ w ∈ ws, w.length ≤ 1000000) (hs : sep.length ≤ 1000) (R : Type) (k : List UInt8 → Option R) : strings_Join ws sep k = k (Lib.join ws sep) := by
 have e : ws.map (fun x => x) = ws := List.map_id' ws
 have h1 := join_len (sep := sep) hw
 have h2 : sep.length * ws.length ≤ 1000 * 1000 := Nat.mul_le_mul hs hl
 have h3 : 1000000 * ws.length ≤ 1000000 * 1000 := Nat.mul_le_mul_left _ hl
 show (bif decide (ws.length ≤ 140737488355328) && decide ((Lib.join (ws.map fun x => x) sep).length ≤ 140737488355328) then k (Lib.join (ws.map fun x => x) sep) else none) = _
 rw [e, decide_eq_true (by omega), decide_eq_true (by omega)]; rfl
theorem ascB_app {a b : List UInt8} (ha : ascB a) (hb : ascB b) : ascB (a ++ b) := fun x hx => by
 rcases List.mem_append.1 hx with h | h
 ·exact ha x h
 ·exact hb x h
theorem ascB_one {x : UInt8} (h : x.toNat < 128) : ascB [x] := fun y hy => by rw [List.mem_singleton.1 hy]; exact h
theorem ascB_take {a : List UInt8} (n : Nat) (ha : ascB a) : ascB (a.take n) := fun x hx => ha x (List.mem_of_mem_take hx)
theorem ascB_drop {a : List UInt8} (n : Nat) (ha : ascB a) : ascB (a.drop n) := fun x hx => ha x (List.mem_of_mem_drop hx)
theorem strOk_g {a b : List UInt8} (h : a.length + b.length ≤ 9000000) : strOk a b = true := by
 unfold strOk
 exact decide_eq_true (by omega)
theorem Changed_gives {b : Int} {s : G_Stream} (hs : SOk b s) (hb : b ≤ 1000000) {t ls : List UInt8} (ht : t.length ≤ 1000000) (ha : ascB t) (hl : ls.length ≤ 1000) (hla : ascB ls) :
  ∃ r s', r.length ≤ t.length + ls.length + 1 ∧ r.length ≤ (if t = [] then ls.length else t.length + 1) ∧ ascB r ∧ SOk (b + 3) s' ∧ ∀ (R : Type) (k : List UInt8 → G_Stream → Option R), Stream_Changed s t ls k = k r s' := by
 cases htn : t == [] with
 | true =>
  have he := beq_iff_eq.1 htn
  subst he
  exact ⟨ls, s, by simp, by simp, hla, hs.mono (by omega), fun R k => rfl⟩
 | false =>
  have hne : t ≠ [] := beq_eq_false_iff_ne.1 htn
  have hpos := List.length_pos_iff.2 hne
  cases hln : ls == [] with
  | true =>
   have he := beq_iff_eq.1 hln
   subst he
   refine ⟨[], s, by simp, by rw [if_neg hne]; simp, (fun x hx => by cases hx), hs.mono (by omega), fun R k => ?_⟩
   show Stream_Changed_ I_Stream_Changed s t [] k = _
   unfold Stream_Changed_
   rw [htn]; rfl
  | false =>
   have hlne : ls ≠ [] := beq_eq_false_iff_ne.1 hln
   have hlpos := List.length_pos_iff.2 hlne
   obtain ⟨i, s1, i1, i2, z1, e1⟩ := Stream_Next_gives hs (t.length : Int) (by omega) (by omega)
   obtain ⟨j, s2, j1, j2, z2, e2⟩ := Stream_Next_gives z1 (ls.length : Int) (by omega) (by omega)
   obtain ⟨q, s3, q1, q2, z3, e3⟩ := Stream_Next_gives z2 3 (by omega) (by omega)
   have i2 := i2 (by omega)
   have j2 := j2 (by omega)
   obtain ⟨m, rfl⟩ : ∃ m : Nat, i = (m : Int) := ⟨i.toNat, by omega⟩
   obtain ⟨p, rfl⟩ : ∃ p : Nat, j = (p : Int) := ⟨j.toNat, by omega⟩
   have hm : m < t.length := by omega
   have hp : p < ls.length := by omega
   obtain ⟨x, hx⟩ : ∃ x, ls[p]? = some x := ⟨_, List.getElem?_eq_getElem hp⟩
   have hxa := hla x (List.mem_of_getElem? hx)
   have f1 : ∀ (R : Type) (k : Int → G_Stream → Option R), I_Stream_Changed.Stream_Next s (t.length : Int) k = k (m : Int) s1 := e1
   have f2 : ∀ (R : Type) (k : Int → G_Stream → Option R), I_Stream_Changed.Stream_Next s1 (ls.length : Int) k = k (p : Int) s2 := e2
   have f3 : ∀ (R : Type) (k : Int → G_Stream → Option R), I_Stream_Changed.Stream_Next s2 3 k = k q s3 := e3
   have g1 : (decide (0 ≤ (m : Int)) && decide ((m : Int) ≤ (t.length : Int))) = true := by rw [decide_eq_true (by omega), decide_eq_true (by omega)]; rfl
   have g2 : (decide (0 ≤ (x.toNat : Int)) && decide ((x.toNat : Int) < 128)) = true := by rw [decide_eq_true (by omega), decide_eq_true (by omega)]; rfl
   have g3 : (decide (0 ≤ ((m + 1 : Nat) : Int)) && decide (((m + 1 : Nat) : Int) ≤ (t.length : Int))) = true := by rw [decide_eq_true (by omega), decide_eq_true (by omega)]; rfl
   have hw : w64 ((m : Int) + 1) = ((m + 1 : Nat) : Int) := w64_succ (by omega)
   have n1 : ((m : Int)).toNat = m := by omega
   have n2 : (((m + 1 : Nat) : Int)).toNat = m + 1 := by omega
   have lt : (t.take m).length = m := by rw [List.length_take]; omega
   have ld : (t.drop (m + 1)).length = t.length - (m + 1) := List.length_drop
   have ld0 : (t.drop m).length = t.length - m := List.length_drop
   have s1k : strOk (t.take m) [x] = true := strOk_g (by rw [lt]; simp; omega)
   have s2k : strOk (t.take m ++ [x]) (t.drop (m + 1)) = true := strOk_g (by rw [List.length_append, lt, ld]; simp; omega)
   have s3k : strOk (t.take m ++ [x]) (t.drop m) = true := strOk_g (by rw [List.length_append, lt, ld0]; simp; omega)
   have s4k : strOk (t.take m) (t.drop (m + 1)) = true := strOk_g (by rw [lt, ld]; omega)
   have a1 := ascB_take m ha
   have a2 := ascB_drop (m + 1) ha
   have a3 := ascB_drop m ha
   have ax := ascB_one hxa
   by_cases c0 : q = 0
   ·subst c0
    refine ⟨t.take m ++ [x] ++ t.drop (m + 1), s3, ?_, ?_, ascB_app (ascB_app a1 ax) a2, z3.mono (by omega), fun R k => ?_⟩
    ·rw [List.length_append, List.length_append, lt, ld]; simp; omega
    ·rw [if_neg hne, List.length_append, List.length_append, lt, ld]; simp; omega
    ·show Stream_Changed_ I_Stream_Changed s t ls k = _
     unfold Stream_Changed_
     rw [htn, hln, cond_false, cond_false, f1, f2, get_nat hx, f3, i32_u8, u8_back, g1, g2, hw, g3, n1, n2, s1k, s2k]
     rfl
   ·have c0' : (q == 0) = false := beq_eq_false_iff_ne.2 c0
    by_cases c1 : q = 1
    ·subst c1
     refine ⟨t.take m ++ [x] ++ t.drop m, s3, ?_, ?_, ascB_app (ascB_app a1 ax) a3, z3.mono (by omega), fun R k => ?_⟩
     ·rw [List.length_append, List.length_append, lt, ld0]; simp; omega
     ·rw [if_neg hne, List.length_append, List.length_append, lt, ld0]; simp; omega
     ·show Stream_Changed_ I_Stream_Changed s t ls k = _
      unfold Stream_Changed_
      rw [htn, hln, cond_false, cond_false, f1, f2, get_nat hx, f3, i32_u8, u8_back, g1, g2, hw, g3, n1, n2, s1k, s3k]
      rfl
    ·have c1' : (q == 1) = false := beq_eq_false_iff_ne.2 c1
     refine ⟨t.take m ++ t.drop (m + 1), s3, ?_, ?_, ascB_app a1 a2, z3.mono (by omega), fun R k => ?_⟩
     ·rw [List.length_append, lt, ld]; omega
     ·rw [if_neg hne, List.length_append, lt, ld]; omega
     ·show Stream_Changed_ I_Stream_Changed s t ls k = _
      unfold Stream_Changed_
      rw [htn, hln, cond_false, cond_false, f1, f2, get_nat hx, f3, c0', c1', cond_false, cond_false, g1, hw, g3, n1, n2, s4k]
      rfl
end Go.Am
set_option linter.unusedVariables false
set_option linter.unusedSectionVars false
set_option linter.unusedSimpArgs false
set_option maxRecDepth 100000
namespace Go.Am
open Go Go.Proofs
variable [Fuel]
theorem law_loggedT (R : Type) (k : Bool → Option R) : law_logged k = k true := by
 obtain ⟨m, h, rfl⟩ := fuel_is ‹Fuel›
 kernel_rfl
theorem RightContactsT_loop (m : Nat) (hm : m ≤ 20) : ∀ (j n i : Nat) (b : Int) (s : G_Stream), i + j = 5 → j < n → SOk b s → b + 700 * (j : Int) ≤ 900000 →
  ∃ (r : List G_Contact) (s' : G_Stream), SOk (b + 700 * (j : Int)) s' ∧ r.length ≤ m ∧ (∀ c ∈ r, Fine c) ∧ faultL r = 0 ∧ ∀ (R : Type) (k : List G_Contact → G_Stream → Option R), Stream_RightContacts_L2 I_Stream_RightContacts n (m : Int) (i : Int) s (fun e12 e13 => k e13 e12) (fun e14 => k [] e14) = k r s'
 | _, 0, _, _, _, _, h, _, _ => by omega
 | 0, n + 1, i, b, s, hi, _, hs, hb => ⟨[], s, hs.mono (by omega), by simp, (fun c h => by cases h), rfl, fun R k => by rw [Stream_RightContacts_L2, decide_eq_false (by omega)]; rfl⟩
 | j + 1, n + 1, i, b, s, hi, hn, hs, hb => by
  obtain ⟨r, s1, z1, l1, f1, e1⟩ := Stream_Contacts_gives hs (by omega) m hm
  have hm' : (m : Int) ≤ 20 := by omega
  have e1' : ∀ {R : Type} (k : List G_Contact → G_Stream → Option R), I_Stream_RightContacts.Stream_Contacts s (m : Int) k = k r s1 := fun k => e1 _ k
  have hq : ∀ {R : Type} (k : Int → Option R), I_Stream_RightContacts.Q_LogFault r k = k (faultL r) := fun k => Q_LogFault_is (fun c hc => (f1 c hc).1) (by omega) _ k
  by_cases h0 : faultL r = 0
  ·refine ⟨r, s1, z1.mono (by omega), l1, fun c hc => (f1 c hc).1, h0, fun R k => ?_⟩
   rw [Stream_RightContacts_L2, decide_eq_true (by omega)]
   simp only [cond_true, e1', hq, h0, beq_self_eq_true]
  ·obtain ⟨r', s', g1, g2, g3, g4, g5⟩ := RightContactsT_loop m hm j n (i + 1) (b + 700) s1 (by omega) (by omega) (z1.mono (by omega)) (by omega)
   refine ⟨r', s', g1.mono (by omega), g2, g3, g4, fun R k => ?_⟩
   rw [Stream_RightContacts_L2, decide_eq_true (by omega)]
   simp only [cond_true, e1', hq, beq_eq_false_iff_ne.2 h0, cond_false, w64_succ (show i < 4611686018427387904 by omega), g5]
theorem RightContactsT {b : Int} {s : G_Stream} (hs : SOk b s) (hb : b ≤ 100000) (m : Nat) (hm : m ≤ 20) :
  ∃ (r : List G_Contact) (s' : G_Stream), SOk (b + 3500) s' ∧ r.length ≤ m ∧ (∀ c ∈ r, Fine c) ∧ faultL r = 0 ∧ ∀ (R : Type) (k : List G_Contact → G_Stream → Option R), Stream_RightContacts s (m : Int) k = k r s' := by
 obtain ⟨r, s', g1, g2, g3, g4, g5⟩ := RightContactsT_loop m hm 5 NN 0 b s (by omega) (by have := NN_ok; omega) hs (by omega)
 exact ⟨r, s', g1.mono (by omega), g2, g3, g4, fun R k => g5 R k⟩
theorem faultC_chkT : ∀ (l : List G_Contact) (p : Option G_Contact), faultC p l = 0 → ∀ c ∈ l, chk c = 0
 | [], _, _, c, h => by cases h
 | x :: xs, p, h, c, hc => by
  unfold faultC at h
  cases hq : chk x != 0 with
  | true => rw [hq] at h; simp only [cond_true] at h; rw [h] at hq; cases hq
  | false =>
   rw [hq, cond_false] at h
   have hx : chk x = 0 := by simpa using hq
   rcases List.mem_cons.1 hc with rfl | hc
   ·exact hx
   ·cases p with
    | none => exact faultC_chkT xs (some x) h c hc
    | some q =>
     simp only at h
     cases hd : decide (cmpC q x ≥ 0) with
     | true => rw [hd] at h; cases h
     | false => rw [hd] at h; exact faultC_chkT xs (some x) h c hc
theorem faultL_chk {l : List G_Contact} (h : faultL l = 0) : ∀ c ∈ l, chk c = 0 := by
 unfold faultL at h
 cases hd : decide ((l.length : Int) > 2000) with
 | true => rw [hd] at h; cases h
 | false => rw [hd] at h; exact faultC_chkT l none h
theorem chk_mode {c : G_Contact} (h : chk c = 0) : 1 ≤ c.f_Mode ∧ c.f_Mode ≤ 3 := by
 unfold chk at h
 cases h1 : momB c.f_At with
 | false => rw [h1] at h; cases h
 | true =>
  cases h2 : inB c.f_Mode 1 3 with
  | false => rw [h1, h2] at h; cases h
  | true => exact inB_is.1 h2
def dashS (s : List UInt8) : List UInt8 := if s == [] then [45] else s
theorem kit_Dash_g (s : List UInt8) (R : Type) (k : List UInt8 → Option R) : kit_Dash s k = k (dashS s) := by
 show kit_Dash_ NN s k = _
 unfold kit_Dash_ dashS
 cases s == [] <;> rfl
theorem Q_dash_g (s : List UInt8) (R : Type) (k : List UInt8 → Option R) : Q_dash s k = k (dashS s) := by
 show Q_dash_ NN s k = _
 unfold Q_dash_ dashS
 cases s == [] <;> rfl
def modeW (m : Int) : List UInt8 := (modesS[m.toNat]?).getD []
def wordsC (c : G_Contact) : List (List UInt8) := [Lib.itoa c.f_At, modeW c.f_Mode, c.f_Band, c.f_Call, Lib.itoa c.f_Sent, dashS c.f_Gave, Lib.itoa c.f_Heard, dashS c.f_Got]
def lineC (c : G_Contact) : List UInt8 := Lib.join (wordsC c) [32]
structure Short (c : G_Contact) : Prop where
 at1 : Wide c.f_At
 mode : 0 ≤ c.f_Mode ∧ c.f_Mode ≤ 3
 sent : Wide c.f_Sent
 heard : Wide c.f_Heard
 band : c.f_Band.length ≤ 100 ∧ ascB c.f_Band
 call : c.f_Call.length ≤ 100 ∧ ascB c.f_Call
 gave : c.f_Gave.length ≤ 100 ∧ ascB c.f_Gave
 got : c.f_Got.length ≤ 100 ∧ ascB c.f_Got
theorem fine_short {c : G_Contact} (h : Fine c) (hm : 0 ≤ c.f_Mode ∧ c.f_Mode ≤ 3) : Short c := by
 have hk : ∀ s ∈ keysL, s.length ≤ 100 ∧ ∀ x ∈ s, x.toNat < 128 := by decide
 have hc : ∀ s ∈ callsL, s.length ≤ 100 ∧ ∀ x ∈ s, x.toNat < 128 := by decide
 have a := h.at1
 have b := h.sent
 have d := h.heard
 exact ⟨⟨by omega, by omega⟩, hm, ⟨by omega, by omega⟩, ⟨by omega, by omega⟩, hk _ h.band, hc _ h.call, hk _ h.gave, hk _ h.got⟩
theorem dashS_short {s : List UInt8} (h : s.length ≤ 100 ∧ ascB s) : (dashS s).length ≤ 100 ∧ ascB (dashS s) := by
 unfold dashS
 split
 ·exact ⟨by simp, ascB_one (by decide)⟩
 ·exact h
theorem modeW_short (m : Int) : (modeW m).length ≤ 100 ∧ ascB (modeW m) := by
 unfold modeW
 have : ∀ s ∈ modesS, s.length ≤ 100 ∧ ∀ x ∈ s, x.toNat < 128 := by decide
 cases h : modesS[m.toNat]? with
 | none => exact ⟨by simp, fun x hx => by cases hx⟩
 | some s => exact this s (List.mem_of_getElem? h)
theorem wordsC_short {c : G_Contact} (h : Short c) : ∀ w ∈ wordsC c, w.length ≤ 100 ∧ ascB w := by
 intro w hw
 have i1 := itoa_len h.at1
 have i2 := itoa_len h.sent
 have i3 := itoa_len h.heard
 unfold wordsC at hw
 simp only [List.mem_cons, List.not_mem_nil, or_false] at hw
 rcases hw with rfl | rfl | rfl | rfl | rfl | rfl | rfl | rfl
 ·exact ⟨by omega, itoa_asc _⟩
 ·exact modeW_short _
 ·exact h.band
 ·exact h.call
 ·exact ⟨by omega, itoa_asc _⟩
 ·exact dashS_short h.gave
 ·exact ⟨by omega, itoa_asc _⟩
 ·exact dashS_short h.got
theorem lineC_short {c : G_Contact} (h : Short c) : (lineC c).length ≤ 900 ∧ ascB (lineC c) := by
 have hw := wordsC_short h
 have := join_len (ws := wordsC c) (sep := [32]) (n := 100) fun w hh => (hw w hh).1
 have e : (wordsC c).length = 8 := rfl
 rw [e] at this
 exact ⟨by unfold lineC; simp at this; omega, join_asc (fun w hh => (hw w hh).2) (ascB_one (by decide))⟩
theorem modeW_at {m : Int} (h : 0 ≤ m ∧ m ≤ 3) (R : Type) (k : List UInt8 → Option R) : inr modesS m (at_ modesS m k) = k (modeW m) := by
 have hl : modesS.length = 4 := rfl
 rw [inr_int h.1 (by rw [hl]; omega)]
 unfold at_ modeW
 obtain ⟨s, hs⟩ : ∃ s, modesS[m.toNat]? = some s := ⟨_, List.getElem?_eq_getElem (by rw [hl]; omega)⟩
 rw [hs]; rfl
theorem Q_ContactLine_g {c : G_Contact} (h : Short c) (R : Type) (k : List UInt8 → Option R) : Q_ContactLine c k = k (lineC c) := by
 have hw := wordsC_short h
 have a1 : ∀ k : List UInt8 → Option R, I_Q_ContactLine.strconv_Itoa c.f_At k = k (Lib.itoa c.f_At) := fun k => Itoa_g h.at1 R k
 have a2 : ∀ k : List UInt8 → Option R, I_Q_ContactLine.strconv_Itoa c.f_Sent k = k (Lib.itoa c.f_Sent) := fun k => Itoa_g h.sent R k
 have a3 : ∀ k : List UInt8 → Option R, I_Q_ContactLine.strconv_Itoa c.f_Heard k = k (Lib.itoa c.f_Heard) := fun k => Itoa_g h.heard R k
 have a4 : ∀ k : List UInt8 → Option R, I_Q_ContactLine.Q_dash c.f_Gave k = k (dashS c.f_Gave) := fun k => Q_dash_g _ R k
 have a5 : ∀ k : List UInt8 → Option R, I_Q_ContactLine.Q_dash c.f_Got k = k (dashS c.f_Got) := fun k => Q_dash_g _ R k
 have a6 : ∀ k : List (List UInt8) → Option R, I_Q_ContactLine.Q_plainModes k = k modesS := fun k => rfl
 have a7 : ∀ k : List UInt8 → Option R, I_Q_ContactLine.strings_Join [Lib.itoa c.f_At, modeW c.f_Mode, c.f_Band, c.f_Call, Lib.itoa c.f_Sent, dashS c.f_Gave, Lib.itoa c.f_Heard, dashS c.f_Got] [32] k = k (lineC c) := fun k => Join_g (ws := wordsC c) (by simp [wordsC]) (fun w hh => by have := (hw w hh).1; omega) (by simp) R k
 show Q_ContactLine_ I_Q_ContactLine c k = _
 unfold Q_ContactLine_
 rw [a1, a6, modeW_at h.mode, a2, a4, a3, a5, a7]
theorem log_Line_g {c : G_Contact} (h : Short c) (R : Type) (k : List UInt8 → Option R) : log_Line c k = k (lineC c ++ [10]) := by
 have hw := wordsC_short h
 have hs := lineC_short h
 have a1 : ∀ k : List UInt8 → Option R, I_log_Line.strconv_Itoa c.f_At k = k (Lib.itoa c.f_At) := fun k => Itoa_g h.at1 R k
 have a2 : ∀ k : List UInt8 → Option R, I_log_Line.strconv_Itoa c.f_Sent k = k (Lib.itoa c.f_Sent) := fun k => Itoa_g h.sent R k
 have a3 : ∀ k : List UInt8 → Option R, I_log_Line.strconv_Itoa c.f_Heard k = k (Lib.itoa c.f_Heard) := fun k => Itoa_g h.heard R k
 have a4 : ∀ k : List UInt8 → Option R, I_log_Line.kit_Dash c.f_Gave k = k (dashS c.f_Gave) := fun k => kit_Dash_g _ R k
 have a5 : ∀ k : List UInt8 → Option R, I_log_Line.kit_Dash c.f_Got k = k (dashS c.f_Got) := fun k => kit_Dash_g _ R k
 have a6 : ∀ k : List (List UInt8) → Option R, I_log_Line.kit_ModeWords k = k modesS := fun k => rfl
 have a7 : ∀ k : List UInt8 → Option R, I_log_Line.kit_Join [Lib.itoa c.f_At, modeW c.f_Mode, c.f_Band, c.f_Call, Lib.itoa c.f_Sent, dashS c.f_Gave, Lib.itoa c.f_Heard, dashS c.f_Got] k = k (lineC c ++ [10]) := fun k => by
  have b1 : ∀ k : List UInt8 → Option R, I_kit_Join.strings_Join (wordsC c) [32] k = k (lineC c) := fun k => Join_g (ws := wordsC c) (by simp [wordsC]) (fun w hh => by have := (hw w hh).1; omega) (by simp) R k
  show kit_Join_ I_kit_Join (wordsC c) k = _
  unfold kit_Join_
  rw [b1, strOk_g (by simp; omega), cond_true]
 show log_Line_ I_log_Line c k = _
 unfold log_Line_
 rw [a1, a6, modeW_at h.mode, a2, a4, a3, a5, a7]
def textC : List G_Contact → List UInt8
 | [] => []
 | c :: cs => (lineC c ++ [10]) ++ textC cs
theorem textC_short : ∀ {d : List G_Contact}, (∀ c ∈ d, Short c) → (textC d).length ≤ 901 * d.length ∧ ascB (textC d)
 | [], _ => ⟨by simp [textC], fun x hx => by cases hx⟩
 | c :: cs, h => by
  have h1 := lineC_short (h c (by simp))
  have h2 := textC_short (d := cs) fun c hc => h c (List.mem_cons_of_mem _ hc)
  refine ⟨?_, ascB_app (ascB_app h1.2 (ascB_one (by decide))) h2.2⟩
  show ((lineC c ++ [10]) ++ textC cs).length ≤ _
  rw [List.length_append, List.length_append, List.length_cons]
  simp only [List.length_cons, List.length_nil]
  omega
theorem LogLines_loop (d : List G_Contact) (hd : ∀ c ∈ d, Short c) (hl : d.length ≤ 100) : ∀ (xs : List G_Contact) (n i : Nat) (acc : List UInt8), d.drop i = xs → xs.length < n → acc.length ≤ 901 * i → ∀ (R : Type) (e0 : List UInt8 → Option R),
  Q_LogLines_L3 I_Q_LogLines n acc d (d.length : Int) (i : Int) e0 = e0 (acc ++ textC xs)
 | _, 0, _, _, _, h, _, _, _ => by omega
 | [], n + 1, i, acc, h, _, _, R, e0 => by rw [Q_LogLines_L3, ge_drop h, textC, List.append_nil]; rfl
 | c :: cs, n + 1, i, acc, h, hn, ha, R, e0 => by
  have h' := drop_cons h
  have hlt := h'.2.1
  have hsh := lineC_short (hd c (mem_drop h))
  have ih := LogLines_loop d hd hl cs n (i + 1) (acc ++ (lineC c ++ [10])) h'.2.2.1 (Nat.lt_of_succ_lt_succ (by simpa only [List.length_cons] using hn)) (by simp; omega) R e0
  have w1 : ∀ k : List UInt8 → Option R, I_Q_LogLines.Q_ContactLine c k = k (lineC c) := fun k => Q_ContactLine_g (hd c (mem_drop h)) R k
  rw [Q_LogLines_L3, lt_drop h, cond_true, get_drop h, w1, strOk_g (by simp; omega), cond_true, strOk_g (by simp; omega), cond_true, w64_succ (show i < 4611686018427387904 by omega), ih, textC, List.append_assoc]
theorem Q_LogLines_g {d : List G_Contact} (hd : ∀ c ∈ d, Short c) (hl : d.length ≤ 100) (R : Type) (k : List UInt8 → Option R) : Q_LogLines d k = k (textC d) :=
 LogLines_loop d hd hl d NN 0 [] rfl (by have := NN_ok; omega) (by simp) R (fun e => k e)
theorem Text_loop (d : List G_Contact) (hd : ∀ c ∈ d, Short c) (hl : d.length ≤ 100) : ∀ (xs : List G_Contact) (n i : Nat) (acc : List UInt8), d.drop i = xs → xs.length < n → acc.length ≤ 901 * i → ∀ (R : Type) (e0 : List UInt8 → Option R),
  log_Text_L6 I_log_Text n d (d.length : Int) (i : Int) acc e0 = e0 (acc ++ textC xs)
 | _, 0, _, _, _, h, _, _, _ => by omega
 | [], n + 1, i, acc, h, _, _, R, e0 => by rw [log_Text_L6, ge_drop h, textC, List.append_nil]; rfl
 | c :: cs, n + 1, i, acc, h, hn, ha, R, e0 => by
  have h' := drop_cons h
  have hlt := h'.2.1
  have hsh := lineC_short (hd c (mem_drop h))
  have ih := Text_loop d hd hl cs n (i + 1) (acc ++ (lineC c ++ [10])) h'.2.2.1 (Nat.lt_of_succ_lt_succ (by simpa only [List.length_cons] using hn)) (by simp; omega) R e0
  have w1 : ∀ k : List UInt8 → Option R, I_log_Text.log_Line c k = k (lineC c ++ [10]) := fun k => log_Line_g (hd c (mem_drop h)) R k
  rw [log_Text_L6, lt_drop h, cond_true, get_drop h, w1, decide_eq_true (by simp; omega), cond_true, w64_succ (show i < 4611686018427387904 by omega), ih, textC, List.append_assoc]
theorem log_Text_right {d : List G_Contact} (hf : ∀ c ∈ d, Fine c) (hd : ∀ c ∈ d, Short c) (hl : d.length ≤ 100) (h0 : faultL d = 0) (R : Type) (k : List UInt8 → Int → Option R) : log_Text d k = k (textC d) 0 := by
 have w1 : ∀ k : Int → Option R, I_log_Text.log_CheckLog d k = k (faultL d) := fun k => log_CheckLog_is hf (by omega) R k
 have hs := textC_short hd
 show log_Text_ I_log_Text d k = _
 unfold log_Text_
 rw [w1, h0]
 refine (Text_loop d hd hl d NN 0 [] rfl (by have := NN_ok; omega) (by simp) R _).trans ?_
 rw [List.nil_append, decide_eq_false (show ¬ (((textC d).length : Int) > 200000) by omega)]
 rfl
theorem log_Text_wrong {d : List G_Contact} (hf : ∀ c ∈ d, Fine c) (hl : d.length ≤ 100) (h0 : faultL d ≠ 0) (R : Type) (k : List UInt8 → Int → Option R) : log_Text d k = k [] (faultL d) := by
 have w1 : ∀ k : Int → Option R, I_log_Text.log_CheckLog d k = k (faultL d) := fun k => log_CheckLog_is hf (by omega) R k
 show log_Text_ I_log_Text d k = _
 unfold log_Text_
 rw [w1, bne_iff_ne.2 h0]
 rfl
theorem short_right {d : List G_Contact} (hf : ∀ c ∈ d, Fine c) (h0 : faultL d = 0) : ∀ c ∈ d, Short c := fun c hc => by
 have := chk_mode (faultL_chk h0 c hc)
 exact fine_short (hf c hc) ⟨by omega, by omega⟩
theorem LogText_loop : ∀ (j n i : Nat) (t : List UInt8) (b : Int) (s : G_Stream) (q : Nat), i + j = q → q ≤ 5 → j < n → SOk b s → b + 3 * (j : Int) ≤ 900000 → t.length ≤ 9000 + 20 * i → ascB t →
  ∃ r s', r.length ≤ 9000 + 20 * q ∧ ascB r ∧ SOk (b + 3 * (j : Int)) s' ∧ ∀ (R : Type) (e0 : List UInt8 → G_Stream → Option R), Stream_LogText_L3 I_Stream_LogText n t (q : Int) (i : Int) s e0 = e0 r s'
 | _, 0, _, _, _, _, _, _, _, h, _, _, _, _ => by omega
 | 0, n + 1, i, t, b, s, q, hi, _, _, hs, hb, hl, ha => ⟨t, s, by omega, ha, hs.mono (by omega), fun R e0 => by rw [Stream_LogText_L3, decide_eq_false (by omega)]; rfl⟩
 | j + 1, n + 1, i, t, b, s, q, hi, hq, hn, hs, hb, hl, ha => by
  obtain ⟨r, s1, l1, _, a1, z1, e1⟩ := Changed_gives hs (by omega) (t := t) (ls := [32, 10, 48, 45, 57, 107, 98]) (by omega) ha (by simp) (by show ∀ x ∈ _, _; decide)
  obtain ⟨r', s', g1, g2, g3, g4⟩ := LogText_loop j n (i + 1) r (b + 3) s1 q (by omega) hq (by omega) z1 (by omega) (by simp at l1; omega) a1
  refine ⟨r', s', g1, g2, g3.mono (by omega), fun R e0 => ?_⟩
  have e1' : ∀ k : List UInt8 → G_Stream → Option R, I_Stream_LogText.Stream_Changed s t [32, 10, 48, 45, 57, 107, 98] k = k r s1 := fun k => e1 R k
  rw [Stream_LogText_L3, decide_eq_true (by omega), cond_true, e1', w64_succ (show i < 4611686018427387904 by omega), g4]
theorem LogText_gives {b : Int} {s : G_Stream} (hs : SOk b s) (hb : b ≤ 90000) :
  ∃ r s', r.length ≤ 10000 ∧ ascB r ∧ SOk (b + 4000) s' ∧ ∀ (R : Type) (k : List UInt8 → G_Stream → Option R), Stream_LogText s k = k r s' := by
 obtain ⟨n, s1, n1, n2, z1, e1⟩ := Stream_Range_gives hs 0 4 (by omega) (by omega) (by omega) (by omega) (by omega)
 obtain ⟨m, rfl⟩ : ∃ m : Nat, n = (m : Int) := ⟨n.toNat, by omega⟩
 obtain ⟨d, s2, z2, ld, fd, f0, e2⟩ := RightContactsT z1 (by omega) m (by omega)
 have sd := short_right fd f0
 obtain ⟨q, s3, q1, z3, e3⟩ := Stream_Pick_gives z2 [0, 0, 1, 2] (by omega) (by simp) (by simp)
 have q2 : 0 ≤ q ∧ q ≤ 2 := by
  simp only [List.mem_cons, List.not_mem_nil, or_false] at q1
  omega
 obtain ⟨p, rfl⟩ : ∃ p : Nat, q = (p : Int) := ⟨q.toNat, by omega⟩
 have ht := textC_short sd
 obtain ⟨r, s', g1, g2, g3, g4⟩ := LogText_loop p NN 0 (textC d) (b + 1 + 3500 + 1) s3 p (by omega) (by omega) (by have := NN_ok; omega) z3 (by omega) (by omega) ht.2
 refine ⟨r, s', by omega, g2, g3.mono (by omega), fun R k => ?_⟩
 have f1 : ∀ k : Int → G_Stream → Option R, I_Stream_LogText.Stream_Range s 0 4 k = k (m : Int) s1 := fun k => e1 R k
 have f2 : ∀ k : List G_Contact → G_Stream → Option R, I_Stream_LogText.Stream_RightContacts s1 (m : Int) k = k d s2 := fun k => e2 R k
 have f3 : ∀ k : List UInt8 → Option R, I_Stream_LogText.Q_LogLines d k = k (textC d) := fun k => Q_LogLines_g sd (by omega) R k
 have f4 : ∀ k : Int → G_Stream → Option R, I_Stream_LogText.Stream_Pick s2 [0, 0, 1, 2] k = k (p : Int) s3 := fun k => e3 R k
 show Stream_LogText_ I_Stream_LogText s k = _
 unfold Stream_LogText_
 rw [f1, f2, f3, f4]
 exact g4 R _
theorem readR_len {s : List UInt8} (ha : ascB s) : (readR s).1.length ≤ 900000 := by
 by_cases hl : s.length > 200000
 ·rw [readR_big hl]; simp
 ·cases hg : goG lineG (endG s) 0 (linesG s) [] with
  | inl j => rw [readR_inl hl hg]; simp
  | inr a =>
   have := (read_fine ha (by omega) hg).2
   rw [readR_inr hl hg]
   cases faultL a != 0
   ·exact this
   ·simp
theorem law_LogTexts_true (l : List Int) (R : Type) (k : Bool → Option R) : law_LogTexts l k = k true := by
 obtain ⟨n, s1, n1, n2, z1, e1⟩ := Stream_Range_gives (sOk0 l) 0 6 (by omega) (by omega) (by omega) (by omega) (by omega)
 obtain ⟨m, rfl⟩ : ∃ m : Nat, n = (m : Int) := ⟨n.toNat, by omega⟩
 obtain ⟨d, s2, z2, ld, fd, e2⟩ := Stream_Contacts_gives z1 (by omega) m (by omega)
 obtain ⟨t, s3, lt, at', z3, e3⟩ := LogText_gives z2 (by omega)
 have ff : ∀ c ∈ d, Fine c := fun c hc => (fd c hc).1
 have hr := readR_len at'
 have g1 : ∀ k : Int → G_Stream → Option R, I_law_LogTexts.Stream_Range ⟨l, 0⟩ 0 6 k = k (m : Int) s1 := fun k => e1 R k
 have g2 : ∀ k : List G_Contact → G_Stream → Option R, I_law_LogTexts.Stream_Contacts s1 (m : Int) k = k d s2 := fun k => e2 R k
 have g3 : ∀ k : List UInt8 → G_Stream → Option R, I_law_LogTexts.Stream_LogText s2 k = k t s3 := fun k => e3 R k
 have g4 : ∀ k : Int → Option R, I_law_LogTexts.Q_LogFault d k = k (faultL d) := fun k => Q_LogFault_is ff (by omega) R k
 have g5 : ∀ k : List G_Contact → Int → Int → Option R, I_law_LogTexts.log_Read t k = k (readR t).1 (readR t).2.1 (readR t).2.2 := fun k => log_Read_g at' R k
 have g6 : ∀ k : List G_Contact → Int → Int → Option R, I_law_LogTexts.Q_LogRead t k = k (readR t).1 (readR t).2.1 (readR t).2.2 := fun k => Q_LogRead_g at' R k
 have g7 : ∀ k : Bool → Option R, I_law_LogTexts.slices_Equal__Contact (readR t).1 (readR t).1 k = k true := fun k => equalC_is (by omega) R k
 have g8 : ∀ k : Bool → Option R, I_law_LogTexts.law_logged k = k true := fun k => law_loggedT R k
 show law_LogTexts_ I_law_LogTexts l k = _
 unfold law_LogTexts_
 rw [g1, g2, g3]
 by_cases h0 : faultL d = 0
 ·have sd := short_right ff h0
  have g9 : ∀ k : List UInt8 → Int → Option R, I_law_LogTexts.log_Text d k = k (textC d) 0 := fun k => log_Text_right ff sd (by omega) h0 R k
  have g10 : ∀ k : List UInt8 → Option R, I_law_LogTexts.Q_LogLines d k = k (textC d) := fun k => Q_LogLines_g sd (by omega) R k
  rw [g9, g4, h0, beq_self_eq_true, cond_true, g10, g5, g6, cond_true, beq_self_eq_true, cond_true, g7, cond_true, beq_self_eq_true, cond_true, beq_self_eq_true, cond_true, g8]
 ·have g9 : ∀ k : List UInt8 → Int → Option R, I_law_LogTexts.log_Text d k = k [] (faultL d) := fun k => log_Text_wrong ff (by omega) h0 R k
  have h1 : (faultL d == 0) = false := beq_eq_false_iff_ne.2 h0
  rw [g9, g4, h1, cond_false, g5, g6, beq_self_eq_true, cond_true]
  show (bif ([] : List UInt8) == [] then _ else _) = _
  rw [show (([] : List UInt8) == []) = true from rfl, cond_true, g7, cond_true, beq_self_eq_true, cond_true, beq_self_eq_true, cond_true, g8]
end Go.Am
