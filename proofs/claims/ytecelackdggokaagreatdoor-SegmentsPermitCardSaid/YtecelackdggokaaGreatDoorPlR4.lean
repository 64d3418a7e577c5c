/- The plain law, in Lean alone: R4. No condition: lemmas for the claim. -/
import Derived.Test.YtecelackdggokaaGreatDoorPlR3
set_option linter.unusedVariables false
set_option linter.unusedSectionVars false
set_option linter.unusedSimpArgs false
set_option maxRecDepth 100000
namespace Go.Am
open Go Go.Proofs
variable [Fuel]
def classL : List (List UInt8) := [[102, 117, 108, 108], [115, 109, 97, 108, 108], [110, 111, 110, 101], [], [65], [99]]
theorem cls_ok : classL.all (fun s => okBool (kit_IsKey s some) (Q_Key s some)) = true := by
  obtain ⟨m, h, rfl⟩ := fuel_is ‹Fuel›
  kernel_rfl
theorem kit_IsKey_cls {s : List UInt8} (h : s ∈ classL) (R : Type) (k : Bool → Option R) : kit_IsKey s k = k (keyB s) :=
  nat_bool ok_kit_IsKey.na (args := [.d (.str s)]) (F := @kit_IsKey _ s) (fun _ _ => rfl) (okBool_is (List.all_eq_true.1 cls_ok s h)).1 R k
theorem Q_Key_cls {s : List UInt8} (h : s ∈ classL) (R : Type) (k : Bool → Option R) : Q_Key s k = k (keyB s) :=
  nat_bool ok_Q_Key.na (args := [.d (.str s)]) (F := @Q_Key _ s) (fun _ _ => rfl) (okBool_is (List.all_eq_true.1 cls_ok s h)).2 R k
structure FineG (s : G_Segment) : Prop where
  cls : s.f_Class ∈ classL
  modes : s.f_Modes.length ≤ 1000
def cmpG (x y : G_Segment) : Int := orL [Lib.compareBytes x.f_Class y.f_Class, cmpI x.f_Low y.f_Low, cmpI x.f_High y.f_High, cmpI x.f_Time.f_From y.f_Time.f_From]
theorem band_compareSegments_is (x y : G_Segment) (R : Type) (k : Int → Option R) : band_compareSegments x y k = k (cmpG x y) := by
  simp only [band_compareSegments, band_compareSegments_, I_band_compareSegments, cmpG, cmp_Compare__int_is, strings_Compare_is]
  rw [cmp_Or__int_is _ (by simp)]
theorem slices_Compare_three (a b c d e f : Int) (R : Type) (k : Int → Option R) : slices_Compare__int [a, b, c] [d, e, f] k = k (orL [cmpI a d, cmpI b e, cmpI c f]) := by
  obtain ⟨m, eN, hm⟩ := NN_succ
  obtain ⟨m, rfl⟩ : ∃ q, m = q + 3 := ⟨m - 3, by omega⟩
  have w1 : w64 (0 + 1) = ((1 : Nat) : Int) := w64_eq (by omega) (by omega)
  have w2 : w64 (((1 : Nat) : Int) + 1) = ((2 : Nat) : Int) := by rw [w64_eq (by omega) (by omega)]; rfl
  have w3 : w64 (((2 : Nat) : Int) + 1) = ((3 : Nat) : Int) := by rw [w64_eq (by omega) (by omega)]; rfl
  have a0 : ∀ {R : Type} (x y z : Int) (k : Int → Option R), get_ [x, y, z] 0 k = k x := fun x y z k => get_nat (i := 0) rfl k
  have a1 : ∀ {R : Type} (x y z : Int) (k : Int → Option R), get_ [x, y, z] ((1 : Nat) : Int) k = k y := fun x y z k => get_nat (i := 1) rfl k
  have a2 : ∀ {R : Type} (x y z : Int) (k : Int → Option R), get_ [x, y, z] ((2 : Nat) : Int) k = k z := fun x y z k => get_nat (i := 2) rfl k
  have d0 : decide ((0 : Int) < ([a, b, c].length : Int)) = true := rfl
  have d1 : decide (((1 : Nat) : Int) < ([a, b, c].length : Int)) = true := rfl
  have d2 : decide (((2 : Nat) : Int) < ([a, b, c].length : Int)) = true := rfl
  have d3 : decide (((3 : Nat) : Int) < ([a, b, c].length : Int)) = false := rfl
  have f0 : decide ((0 : Int) ≥ ([d, e, f].length : Int)) = false := rfl
  have f1 : decide (((1 : Nat) : Int) ≥ ([d, e, f].length : Int)) = false := rfl
  have f2 : decide (((2 : Nat) : Int) ≥ ([d, e, f].length : Int)) = false := rfl
  have f3 : decide (([a, b, c].length : Int) < ([d, e, f].length : Int)) = false := rfl
  simp only [slices_Compare__int, slices_Compare__int_]
  rw [show I_slices_Compare__int.N = m + 3 + 1 from eN]
  simp only [slices_Compare__int_L2, d0, d1, d2, d3, f0, f1, f2, f3, w1, w2, w3, a0, a1, a2, I_slices_Compare__int, cond_true, cond_false, cmp_Compare__int_is, orL]
  cases h1 : cmpI a d != 0 with
  | true => simp only [cond_true]
  | false =>
    simp only [cond_false]
    cases h2 : cmpI b e != 0 with
    | true => simp only [cond_true]
    | false =>
      simp only [cond_false]
      cases h3 : cmpI c f != 0 with
      | true => simp only [cond_true]
      | false => simp only [cond_false]
theorem Stream_Segments_1_is (x y : G_Segment) (R : Type) (k : Int → Option R) : Stream_Segments_1 x y k = k (cmpG x y) := by
  simp only [Stream_Segments_1, Stream_Segments_1_, I_Stream_Segments_1, slices_Compare_three, bytesLess_is, cmpG, ne_cb x.f_Class y.f_Class]
  rw [show orL [Lib.compareBytes x.f_Class y.f_Class, cmpI x.f_Low y.f_Low, cmpI x.f_High y.f_High, cmpI x.f_Time.f_From y.f_Time.f_From] = bif Lib.compareBytes x.f_Class y.f_Class != 0 then Lib.compareBytes x.f_Class y.f_Class else orL [cmpI x.f_Low y.f_Low, cmpI x.f_High y.f_High, cmpI x.f_Time.f_From y.f_Time.f_From] from rfl]
  rcases cb_cases x.f_Class y.f_Class with h | h | h <;> rw [h] <;> rfl
def modeFs : Option Int → List Int → Int
  | _, [] => 0
  | p, m :: ms => bif !inB m 1 3 then 4 else match p with
    | none => modeFs (some m) ms
    | some q => bif decide (m ≤ q) then 7 else modeFs (some m) ms
def modeF (l : List Int) : Int := bif (l.length : Int) == 0 then 8 else modeFs none l
theorem band_modesFault_loop (d : List Int) (hl : d.length ≤ 100000) : ∀ (xs : List Int) (n i : Nat) (p : Option Int), d.drop i = xs → PrevAt d i p → xs.length < n → ∀ (R : Type) (k : Int → Option R),
    band_modesFault_L4 I_band_modesFault n d d (d.length : Int) (i : Int) k (k 0) = k (modeFs p xs)
  | _, 0, _, _, _, _, h, _, _ => by omega
  | [], n + 1, i, p, h, _, _, _, _ => by rw [band_modesFault_L4, ge_drop h]; rfl
  | c :: cs, n + 1, i, p, h, hp, hn, R, k => by
    have h' := drop_cons h
    have ih := band_modesFault_loop d hl cs n (i + 1) (some c) h'.2.2.1 (prevAt_next h) (by simp at hn; omega) R k
    rw [band_modesFault_L4, lt_drop h]
    simp only [I_band_modesFault] at ih
    simp only [cond_true, get_drop h, I_band_modesFault, kit_IsMode_is, modeFs, w64_succ (show i < 4611686018427387904 by omega), ih]
    cases inB c 1 3 <;> try rfl
    cases p with
    | none => rw [decide_eq_false (show ¬ ((i : Int) > 0) by unfold PrevAt at hp; omega)]; rfl
    | some q =>
      obtain ⟨h0, ys, hq⟩ := hp
      rw [decide_eq_true (show ((i : Int) > 0) by omega), prev_drop hq h0 (by omega)]
      simp only [Bool.not_true, cond_false, cond_true]
      cases decide (c ≤ q) <;> rfl
theorem band_modesFault_is {d : List Int} (hl : d.length ≤ 100000) (R : Type) (k : Int → Option R) : band_modesFault d k = k (modeF d) := by
  have h : band_modesFault_L4 I_band_modesFault I_band_modesFault.N d d (d.length : Int) 0 k (k 0) = k (modeFs none d) := band_modesFault_loop d hl d NN 0 none rfl rfl (by have := NN_ok; omega) R k
  simp only [band_modesFault, band_modesFault_, modeF, h]
  cases (d.length : Int) == 0 <;> rfl
theorem Q_modes_loop (s : G_Segment) (hl : s.f_Modes.length ≤ 100000) (v42 v44 : List G_Segment) (v43 v45 v46 : Int) : ∀ (xs : List Int) (n i : Nat) (p : Option Int), s.f_Modes.drop i = xs → PrevAt s.f_Modes i p → xs.length < n → ∀ (R : Type) (e0 : List G_Segment → Int → Int → List G_Segment → Int → Int → G_Segment → Option R) (e1 : List G_Segment → Int → List G_Segment → Int → Int → G_Segment → Option R),
    Q_SegmentsFault_L13 I_Q_SegmentsFault n v42 v43 v44 v45 v46 s.f_Modes (s.f_Modes.length : Int) (i : Int) s e0 e1 = bif modeFs p xs != 0 then e0 v42 (modeFs p xs) v43 v44 v45 v46 s else e1 v42 v43 v44 v45 v46 s
  | _, 0, _, _, _, _, h, _, _, _ => by omega
  | [], n + 1, i, p, h, _, _, _, _, _ => by rw [Q_SegmentsFault_L13, ge_drop h]; rfl
  | c :: cs, n + 1, i, p, h, hp, hn, R, e0, e1 => by
    have h' := drop_cons h
    have ih := Q_modes_loop s hl v42 v44 v43 v45 v46 cs n (i + 1) (some c) h'.2.2.1 (prevAt_next h) (by simp at hn; omega) R e0 e1
    rw [Q_SegmentsFault_L13, lt_drop h]
    simp only [I_Q_SegmentsFault] at ih
    simp only [cond_true, get_drop h, I_Q_SegmentsFault, Q_in_is, modeFs, w64_succ (show i < 4611686018427387904 by omega), ih]
    cases inB c 1 3 <;> try rfl
    cases p with
    | none => rw [decide_eq_false (show ¬ ((i : Int) > 0) by unfold PrevAt at hp; omega)]; rfl
    | some q =>
      obtain ⟨h0, ys, hq⟩ := hp
      rw [decide_eq_true (show ((i : Int) > 0) by omega), prev_drop hq h0 (by omega)]
      simp only [Bool.not_true, cond_false, cond_true]
      cases decide (c ≤ q) <;> rfl
def timeB (w : G_Window) : Bool := decide (w.f_From ≥ 0) && (decide (w.f_From < w.f_To) && decide (w.f_To ≤ 345686400000))
theorem kit_IsTime_is (w : G_Window) (R : Type) (k : Bool → Option R) : kit_IsTime w k = k (timeB w) := by
  simp only [kit_IsTime, kit_IsTime_, timeB]
  cases decide (w.f_From ≥ 0) <;> cases decide (w.f_From < w.f_To) <;> rfl
theorem Q_timeFault_is (w : G_Window) (R : Type) (k : Int → Option R) : Q_timeFault w k = k (bif !timeB w then 1 else 0) := by
  simp only [Q_timeFault, Q_timeFault_, timeB]
  rw [show decide (w.f_From < 0) = !decide (w.f_From ≥ 0) by rw [← decide_not]; simp, show decide (w.f_From ≥ w.f_To) = !decide (w.f_From < w.f_To) by rw [← decide_not]; simp, show decide (w.f_To > 345686400000) = !decide (w.f_To ≤ 345686400000) by rw [← decide_not]; simp]
  cases decide (w.f_From ≥ 0) <;> cases decide (w.f_From < w.f_To) <;> cases decide (w.f_To ≤ 345686400000) <;> rfl
noncomputable def chkG (s : G_Segment) : Int := bif !keyB s.f_Class then 5 else bif decide (s.f_Low < 0) then 1 else bif decide (s.f_Low ≥ s.f_High) then 1 else bif decide (s.f_High > 30000000000) then 1 else bif modeF s.f_Modes != 0 then modeF s.f_Modes else bif !timeB s.f_Time then 1 else 0
noncomputable def faultGs : Option G_Segment → List G_Segment → Int
  | _, [] => 0
  | p, c :: cs => bif chkG c != 0 then chkG c else match p with
    | none => faultGs (some c) cs
    | some q => bif decide (cmpG q c ≥ 0) then 7 else faultGs (some c) cs
theorem chkG_good {s : G_Segment} (h : chkG s = 0) : GoodG s := by
  unfold chkG at h
  by_cases h1 : s.f_Low < 0
  · rw [decide_eq_true h1] at h; revert h; cases keyB s.f_Class <;> simp
  · by_cases h2 : s.f_Low ≥ s.f_High
    · rw [decide_eq_false h1, decide_eq_true h2] at h; revert h; cases keyB s.f_Class <;> simp
    · by_cases h3 : s.f_High > 30000000000
      · rw [decide_eq_false h1, decide_eq_false h2, decide_eq_true h3] at h; revert h; cases keyB s.f_Class <;> simp
      · exact ⟨by omega, by omega, by omega⟩
theorem faultGs_good : ∀ (l : List G_Segment) (p : Option G_Segment), faultGs p l = 0 → ∀ c ∈ l, GoodG c
  | [], _, _, c, h => by cases h
  | x :: xs, p, h, c, hc => by
    unfold faultGs at h
    cases hq : chkG x != 0 with
    | true => rw [hq] at h; simp only [cond_true] at h; rw [h] at hq; cases hq
    | false =>
      rw [hq] at h
      simp only [cond_false] at h
      have h0 : chkG x = 0 := by simpa using hq
      have h2 : faultGs (some x) xs = 0 := by
        cases p with
        | none => exact h
        | some q =>
          simp only at h
          cases hd : decide (cmpG q x ≥ 0) with
          | true => rw [hd] at h; simp only [cond_true] at h; omega
          | false => rw [hd] at h; exact h
      rcases List.mem_cons.1 hc with rfl | hc
      · exact chkG_good h0
      · exact faultGs_good xs (some x) h2 c hc
noncomputable def faultG (d : List G_Segment) : Int := bif decide ((d.length : Int) > 500) then 2 else faultGs none d
theorem faultG_good {l : List G_Segment} (h : faultG l = 0) : ∀ c ∈ l, GoodG c := by
  unfold faultG at h
  cases hd : decide ((l.length : Int) > 500) with
  | true => rw [hd] at h; simp only [cond_true] at h; omega
  | false => rw [hd] at h; exact faultGs_good l none h
theorem band_CheckSegments_loop (d : List G_Segment) (hf : ∀ c ∈ d, FineG c) (hl : d.length ≤ 100000) : ∀ (xs : List G_Segment) (n i : Nat) (p : Option G_Segment), d.drop i = xs → PrevAt d i p → xs.length < n → ∀ (R : Type) (k : Int → Option R),
    band_CheckSegments_L4 I_band_CheckSegments n d d (d.length : Int) (i : Int) k (k 0) = k (faultGs p xs)
  | _, 0, _, _, _, _, h, _, _ => by omega
  | [], n + 1, i, p, h, _, _, _, _ => by rw [band_CheckSegments_L4, ge_drop h]; rfl
  | c :: cs, n + 1, i, p, h, hp, hn, R, k => by
    have h' := drop_cons h
    have ih := band_CheckSegments_loop d hf hl cs n (i + 1) (some c) h'.2.2.1 (prevAt_next h) (by simp at hn; omega) R k
    have hc := hf c (mem_drop h)
    rw [band_CheckSegments_L4, lt_drop h]
    simp only [I_band_CheckSegments] at ih
    simp only [cond_true, get_drop h, I_band_CheckSegments, kit_IsKey_cls hc.cls, band_modesFault_is (show c.f_Modes.length ≤ 100000 by have := hc.modes; omega), kit_IsTime_is, band_compareSegments_is, faultGs, chkG, w64_succ (show i < 4611686018427387904 by omega), ih]
    cases keyB c.f_Class <;> cases decide (c.f_Low < 0) <;> cases decide (c.f_Low ≥ c.f_High) <;> cases decide (c.f_High > 30000000000) <;> try rfl
    cases hm : modeF c.f_Modes != 0 with
    | true => simp only [Bool.not_true, cond_false, cond_true, hm]
    | false =>
      cases timeB c.f_Time <;> try rfl
      cases p with
      | none => rw [decide_eq_false (show ¬ ((i : Int) > 0) by unfold PrevAt at hp; omega)]; rfl
      | some q =>
        obtain ⟨h0, ys, hq⟩ := hp
        rw [decide_eq_true (show ((i : Int) > 0) by omega), prev_drop hq h0 (by omega)]
        simp only [Bool.not_true, cond_false, cond_true, bne_self_eq_false]
        cases decide (cmpG q c ≥ 0) <;> rfl
theorem Q_SegmentsFault_loop (d : List G_Segment) (hf : ∀ c ∈ d, FineG c) (hl : d.length ≤ 100000) : ∀ (xs : List G_Segment) (n i : Nat) (p : Option G_Segment), d.drop i = xs → PrevAt d i p → xs.length < n → ∀ (R : Type) (k : Int → Option R),
    Q_SegmentsFault_L4 I_Q_SegmentsFault n d d (d.length : Int) (i : Int) k (k 0) = k (faultGs p xs)
  | _, 0, _, _, _, _, h, _, _ => by omega
  | [], n + 1, i, p, h, _, _, _, _ => by rw [Q_SegmentsFault_L4, ge_drop h]; rfl
  | c :: cs, n + 1, i, p, h, hp, hn, R, k => by
    have h' := drop_cons h
    have ih := Q_SegmentsFault_loop d hf hl cs n (i + 1) (some c) h'.2.2.1 (prevAt_next h) (by simp at hn; omega) R k
    have hc := hf c (mem_drop h)
    have hm : ∀ (e0 : List G_Segment → Int → Int → List G_Segment → Int → Int → G_Segment → Option R) (e1 : List G_Segment → Int → List G_Segment → Int → Int → G_Segment → Option R), Q_SegmentsFault_L13 I_Q_SegmentsFault I_Q_SegmentsFault.N d (i : Int) d (d.length : Int) (i : Int) c.f_Modes (c.f_Modes.length : Int) 0 c e0 e1 = bif modeFs none c.f_Modes != 0 then e0 d (modeFs none c.f_Modes) (i : Int) d (d.length : Int) (i : Int) c else e1 d (i : Int) d (d.length : Int) (i : Int) c := fun e0 e1 =>
      Q_modes_loop c (by have := hc.modes; omega) d d (i : Int) (d.length : Int) (i : Int) c.f_Modes NN 0 none rfl rfl (by have := NN_ok; have := hc.modes; omega) R e0 e1
    rw [Q_SegmentsFault_L4, lt_drop h]
    simp only [I_Q_SegmentsFault] at ih hm
    simp only [cond_true, get_drop h, I_Q_SegmentsFault, Q_Key_cls hc.cls, hm, Q_timeFault_is, strings_Compare_is, slices_Compare_three, faultGs, chkG, modeF, w64_succ (show i < 4611686018427387904 by omega), ih]
    cases keyB c.f_Class <;> cases decide (c.f_Low < 0) <;> cases decide (c.f_Low ≥ c.f_High) <;> cases decide (c.f_High > 30000000000) <;> cases (c.f_Modes.length : Int) == 0 <;> try rfl
    simp only [Bool.not_true, cond_false]
    cases hm2 : modeFs none c.f_Modes != 0 with
    | true => simp only [cond_true, hm2]
    | false =>
      cases timeB c.f_Time <;> try rfl
      cases p with
      | none => rw [decide_eq_false (show ¬ ((i : Int) > 0) by unfold PrevAt at hp; omega)]; rfl
      | some q =>
        obtain ⟨h0, ys, hq⟩ := hp
        rw [decide_eq_true (show ((i : Int) > 0) by omega), prev_drop hq h0 (by omega)]
        simp only [Bool.not_true, cond_false, cond_true, bne_self_eq_false]
        rw [show cmpG q c = bif Lib.compareBytes q.f_Class c.f_Class != 0 then Lib.compareBytes q.f_Class c.f_Class else orL [cmpI q.f_Low c.f_Low, cmpI q.f_High c.f_High, cmpI q.f_Time.f_From c.f_Time.f_From] from rfl]
        rcases cb_cases q.f_Class c.f_Class with h9 | h9 | h9 <;> rw [h9] <;> try rfl
        rw [show ((0 : Int) == 0) = true from rfl, show ((0 : Int) != 0) = false from rfl]
        simp only [cond_true, cond_false]
        cases decide (orL [cmpI q.f_Low c.f_Low, cmpI q.f_High c.f_High, cmpI q.f_Time.f_From c.f_Time.f_From] ≥ 0) <;> rfl
theorem band_CheckSegments_is {d : List G_Segment} (hf : ∀ c ∈ d, FineG c) (hl : d.length ≤ 100000) (R : Type) (k : Int → Option R) : band_CheckSegments d k = k (faultG d) := by
  have h : band_CheckSegments_L4 I_band_CheckSegments I_band_CheckSegments.N d d (d.length : Int) 0 k (k 0) = k (faultGs none d) := band_CheckSegments_loop d hf hl d NN 0 none rfl rfl (by have := NN_ok; omega) R k
  simp only [band_CheckSegments, band_CheckSegments_, faultG, h]
  cases decide ((d.length : Int) > 500) <;> rfl
theorem Q_SegmentsFault_is {d : List G_Segment} (hf : ∀ c ∈ d, FineG c) (hl : d.length ≤ 100000) (R : Type) (k : Int → Option R) : Q_SegmentsFault d k = k (faultG d) := by
  have h : Q_SegmentsFault_L4 I_Q_SegmentsFault I_Q_SegmentsFault.N d d (d.length : Int) 0 k (k 0) = k (faultGs none d) := Q_SegmentsFault_loop d hf hl d NN 0 none rfl rfl (by have := NN_ok; omega) R k
  simp only [Q_SegmentsFault, Q_SegmentsFault_, faultG, h]
  cases decide ((d.length : Int) > 500) <;> rfl
end Go.Am
