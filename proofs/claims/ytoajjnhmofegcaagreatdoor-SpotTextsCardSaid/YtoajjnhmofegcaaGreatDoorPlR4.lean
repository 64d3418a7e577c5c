/- The plain law, in Lean alone: R4, R5, R6, R7. No condition: lemmas for the claim. -/
import Derived.Test.YtoajjnhmofegcaaGreatDoorPlR3
set_option linter.unusedVariables false
set_option linter.unusedSectionVars false
set_option linter.unusedSimpArgs false
set_option maxRecDepth 100000
namespace Go.Am
open Go Go.Proofs
variable [Fuel]
def classL : List (List UInt8) := [[102, 117, 108, 108], [115, 109, 97, 108, 108], [110, 111, 110, 101], [], [65], [99]]
theorem clsI_ok : classL.all (fun s => (kit_IsKey s some).isSome) = true := by
 obtain ⟨m, h, rfl⟩ := fuel_is ‹Fuel›
 kernel_rfl
theorem kit_IsKey_cls {s : List UInt8} (h : s ∈ classL) (R : Type) (k : Bool → Option R) : kit_IsKey s k = k (keyB s) :=
 nat_bool ok_kit_IsKey.na (args := [.d (.str s)]) (F := @kit_IsKey _ s) (fun _ _ => rfl) (someBool_is (List.all_eq_true.1 clsI_ok s h)) R k
structure FineG (s : G_Segment) : Prop where
 cls : s.f_Class ∈ classL
 modes : s.f_Modes.length ≤ 1000
def cmpG (x y : G_Segment) : Int := orL [Lib.compareBytes x.f_Class y.f_Class, cmpI x.f_Low y.f_Low, cmpI x.f_High y.f_High, cmpI x.f_Time.f_From y.f_Time.f_From]
theorem band_compareSegments_is (x y : G_Segment) (R : Type) (k : Int → Option R) : band_compareSegments x y k = k (cmpG x y) := by
 simp only [band_compareSegments, band_compareSegments_, I_band_compareSegments, cmpG, cmp_Compare__int_is, strings_Compare_is]
 rw [cmp_Or__int_is _ (by simp)]
def modeFs : Option Int → List Int → Int
 | _, [] => 0
 | p, m :: ms => bif !inB m 1 3 then 4 else match p with
  | none => modeFs (some m) ms
  | some q => bif decide (m ≤ q) then 7 else modeFs (some m) ms
def modeF (l : List Int) : Int := bif (l.length : Int) == 0 then 8 else modeFs none l
theorem band_modesFault_loop (d : List Int) (hl : d.length ≤ 100000) : ∀ (xs : List Int) (n i : Nat) (p : Option Int), d.drop i = xs → PrevAt d i p → xs.length < n → ∀ (R : Type) (k : Int → Option R),
  band_modesFault_L4 I_band_modesFault n d d (d.length : Int) (i : Int) k (k 0) = k (modeFs p xs)
 | _, 0, _, _, _, _, h, _, _ => by omega
 | [], n + 1, i, p, h, _, _, _, _ => by rw [band_modesFault_L4, ge_drop h]; rfl
 | c :: cs, n + 1, i, p, h, hp, hn, R, k => by
  have h' := drop_cons h
  have ih := band_modesFault_loop d hl cs n (i + 1) (some c) h'.2.2.1 (prevAt_next h) (by simp at hn; omega) R k
  rw [band_modesFault_L4, lt_drop h]
  simp only [I_band_modesFault] at ih
  simp only [cond_true, get_drop h, I_band_modesFault, kit_IsMode_is, modeFs, w64_succ (show i < 4611686018427387904 by omega), ih]
  cases inB c 1 3 <;> try rfl
  cases p with
  | none => rw [decide_eq_false (show ¬ ((i : Int) > 0) by unfold PrevAt at hp; omega)]; rfl
  | some q =>
   obtain ⟨h0, ys, hq⟩ := hp
   rw [decide_eq_true (show ((i : Int) > 0) by omega), prev_drop hq h0 (by omega)]
   simp only [Bool.not_true, cond_false, cond_true]
   cases decide (c ≤ q) <;> rfl
theorem band_modesFault_is {d : List Int} (hl : d.length ≤ 100000) (R : Type) (k : Int → Option R) : band_modesFault d k = k (modeF d) := by
 have h : band_modesFault_L4 I_band_modesFault I_band_modesFault.N d d (d.length : Int) 0 k (k 0) = k (modeFs none d) := band_modesFault_loop d hl d NN 0 none rfl rfl (by have := NN_ok; omega) R k
 simp only [band_modesFault, band_modesFault_, modeF, h]
 cases (d.length : Int) == 0 <;> rfl
def timeB (w : G_Window) : Bool := decide (w.f_From ≥ 0) && (decide (w.f_From < w.f_To) && decide (w.f_To ≤ 345686400000))
theorem kit_IsTime_is (w : G_Window) (R : Type) (k : Bool → Option R) : kit_IsTime w k = k (timeB w) := by
 simp only [kit_IsTime, kit_IsTime_, timeB]
 cases decide (w.f_From ≥ 0) <;> cases decide (w.f_From < w.f_To) <;> rfl
noncomputable def chkG (s : G_Segment) : Int := bif !keyB s.f_Class then 5 else bif decide (s.f_Low < 0) then 1 else bif decide (s.f_Low ≥ s.f_High) then 1 else bif decide (s.f_High > 30000000000) then 1 else bif modeF s.f_Modes != 0 then modeF s.f_Modes else bif !timeB s.f_Time then 1 else 0
noncomputable def faultGs : Option G_Segment → List G_Segment → Int
 | _, [] => 0
 | p, c :: cs => bif chkG c != 0 then chkG c else match p with
  | none => faultGs (some c) cs
  | some q => bif decide (cmpG q c ≥ 0) then 7 else faultGs (some c) cs
theorem chkG_good {s : G_Segment} (h : chkG s = 0) : GoodG s := by
 unfold chkG at h
 by_cases h1 : s.f_Low < 0
 ·rw [decide_eq_true h1] at h; revert h; cases keyB s.f_Class <;> simp
 ·by_cases h2 : s.f_Low ≥ s.f_High
  ·rw [decide_eq_false h1, decide_eq_true h2] at h; revert h; cases keyB s.f_Class <;> simp
  ·by_cases h3 : s.f_High > 30000000000
   ·rw [decide_eq_false h1, decide_eq_false h2, decide_eq_true h3] at h; revert h; cases keyB s.f_Class <;> simp
   ·exact ⟨by omega, by omega, by omega⟩
theorem faultGs_good : ∀ (l : List G_Segment) (p : Option G_Segment), faultGs p l = 0 → ∀ c ∈ l, GoodG c
 | [], _, _, c, h => by cases h
 | x :: xs, p, h, c, hc => by
  unfold faultGs at h
  cases hq : chkG x != 0 with
  | true => rw [hq] at h; simp only [cond_true] at h; rw [h] at hq; cases hq
  | false =>
   rw [hq] at h
   simp only [cond_false] at h
   have h0 : chkG x = 0 := by simpa using hq
   have h2 : faultGs (some x) xs = 0 := by
    cases p with
    | none => exact h
    | some q =>
     simp only at h
     cases hd : decide (cmpG q x ≥ 0) with
     | true => rw [hd] at h; simp only [cond_true] at h; omega
     | false => rw [hd] at h; exact h
   rcases List.mem_cons.1 hc with rfl | hc
   ·exact chkG_good h0
   ·exact faultGs_good xs (some x) h2 c hc
noncomputable def faultG (d : List G_Segment) : Int := bif decide ((d.length : Int) > 500) then 2 else faultGs none d
theorem faultG_good {l : List G_Segment} (h : faultG l = 0) : ∀ c ∈ l, GoodG c := by
 unfold faultG at h
 cases hd : decide ((l.length : Int) > 500) with
 | true => rw [hd] at h; simp only [cond_true] at h; omega
 | false => rw [hd] at h; exact faultGs_good l none h
theorem band_CheckSegments_loop (d : List G_Segment) (hf : ∀ c ∈ d, FineG c) (hl : d.length ≤ 100000) : ∀ (xs : List G_Segment) (n i : Nat) (p : Option G_Segment), d.drop i = xs → PrevAt d i p → xs.length < n → ∀ (R : Type) (k : Int → Option R),
  band_CheckSegments_L4 I_band_CheckSegments n d d (d.length : Int) (i : Int) k (k 0) = k (faultGs p xs)
 | _, 0, _, _, _, _, h, _, _ => by omega
 | [], n + 1, i, p, h, _, _, _, _ => by rw [band_CheckSegments_L4, ge_drop h]; rfl
 | c :: cs, n + 1, i, p, h, hp, hn, R, k => by
  have h' := drop_cons h
  have ih := band_CheckSegments_loop d hf hl cs n (i + 1) (some c) h'.2.2.1 (prevAt_next h) (by simp at hn; omega) R k
  have hc := hf c (mem_drop h)
  rw [band_CheckSegments_L4, lt_drop h]
  simp only [I_band_CheckSegments] at ih
  simp only [cond_true, get_drop h, I_band_CheckSegments, kit_IsKey_cls hc.cls, band_modesFault_is (show c.f_Modes.length ≤ 100000 by have := hc.modes; omega), kit_IsTime_is, band_compareSegments_is, faultGs, chkG, w64_succ (show i < 4611686018427387904 by omega), ih]
  cases keyB c.f_Class <;> cases decide (c.f_Low < 0) <;> cases decide (c.f_Low ≥ c.f_High) <;> cases decide (c.f_High > 30000000000) <;> try rfl
  cases hm : modeF c.f_Modes != 0 with
  | true => simp only [Bool.not_true, cond_false, cond_true, hm]
  | false =>
   cases timeB c.f_Time <;> try rfl
   cases p with
   | none => rw [decide_eq_false (show ¬ ((i : Int) > 0) by unfold PrevAt at hp; omega)]; rfl
   | some q =>
    obtain ⟨h0, ys, hq⟩ := hp
    rw [decide_eq_true (show ((i : Int) > 0) by omega), prev_drop hq h0 (by omega)]
    simp only [Bool.not_true, cond_false, cond_true, bne_self_eq_false]
    cases decide (cmpG q c ≥ 0) <;> rfl
theorem band_CheckSegments_is {d : List G_Segment} (hf : ∀ c ∈ d, FineG c) (hl : d.length ≤ 100000) (R : Type) (k : Int → Option R) : band_CheckSegments d k = k (faultG d) := by
 have h : band_CheckSegments_L4 I_band_CheckSegments I_band_CheckSegments.N d d (d.length : Int) 0 k (k 0) = k (faultGs none d) := band_CheckSegments_loop d hf hl d NN 0 none rfl rfl (by have := NN_ok; omega) R k
 simp only [band_CheckSegments, band_CheckSegments_, faultG, h]
 cases decide ((d.length : Int) > 500) <;> rfl
end Go.Am
set_option linter.unusedVariables false
set_option linter.unusedSectionVars false
set_option linter.unusedSimpArgs false
set_option maxRecDepth 100000
namespace Go.Am
open Go Go.Proofs
variable [Fuel]
end Go.Am
set_option linter.unusedVariables false
set_option linter.unusedSectionVars false
set_option linter.unusedSimpArgs false
set_option maxRecDepth 100000
namespace Go.Am
open Go Go.Proofs
variable [Fuel]
noncomputable def nameF (c : List UInt8) : Int := bif !keyB c then 5 else 0
def outF (x lo hi e : Int) : Int := bif !inB x lo hi then e else 0
def momF (x : Int) : Int := bif momB x then 0 else 1
noncomputable def faultN (l : List G_Segment) (c : List UInt8) : Int := orL [faultG l, nameF c]
noncomputable def faultMay (l : List G_Segment) (c : List UInt8) (hertz width mode at0 : Int) : Int := orL [faultN l c, outF hertz 0 30000000000 1, outF width 1 100000 1, outF mode 1 3 4, momF at0]
noncomputable def mayR (l : List G_Segment) (c : List UInt8) (hertz width mode at0 : Int) : Bool := (rowsL (permL c mode at0 [] l) []).any fun r => decide (r.f_From ≤ (usedR hertz width).f_From) && decide ((usedR hertz width).f_To ≤ r.f_To)
theorem modes_of {l : List G_Segment} (hf : ∀ c ∈ l, FineG c) : ∀ s ∈ l, s.f_Modes.length ≤ 1000 := fun s h => (hf s h).modes
theorem band_May_is {l : List G_Segment} (hf : ∀ c ∈ l, FineG c) (hl : l.length ≤ 400) {c : List UInt8} (hc : c ∈ classL) (hertz width mode at0 : Int) (R : Type) (k : Bool → Int → Option R) :
  band_May l c hertz width mode at0 k = bif faultMay l c hertz width mode at0 != 0 then k false (faultMay l c hertz width mode at0) else k (mayR l c hertz width mode at0) 0 := by
 have hu : ∀ k : G_Row → Option R, band_used hertz width k = k (usedR hertz width) := fun k => rfl
 simp only [band_May, band_May_, I_band_May, band_CheckSegments_is hf (show l.length ≤ 100000 by omega), kit_IsKey_cls hc, kit_Outside_is, kit_IsMode_is, kit_IsMoment_is, hu, faultMay, faultN, nameF, outF, momF, orL]
 cases h1 : faultG l != 0 with
 | true => simp only [cond_true, h1]
 | false =>
  have hz : faultG l = 0 := by simpa using h1
  obtain ⟨p1, p2⟩ := band_permitted_is (modes_of hf) (faultG_good hz) (show l.length ≤ 500 by omega) c mode at0
  simp only [cond_false, p2, con_may (show (rowsL (permL c mode at0 [] l) []).length ≤ 100000 by omega)]
  cases keyB c <;> cases inB hertz 0 30000000000 <;> cases inB width 1 100000 <;> cases inB mode 1 3 <;> cases momB at0 <;> rfl
end Go.Am
set_option linter.unusedVariables false
set_option linter.unusedSectionVars false
set_option linter.unusedSimpArgs false
set_option maxRecDepth 100000
namespace Go.Am
open Go Go.Proofs
variable [Fuel]
def segB : G_Segment := ⟨[99], 5, 8, [1], ⟨0, 9⟩⟩
theorem keyB_c : keyB [99] = true := by
 obtain ⟨m, h, rfl⟩ := fuel_is ‹Fuel›
 kernel_rfl
theorem law_banded_is (R : Type) (k : Bool → Option R) : law_banded k = k true := by
 have hf : ∀ c ∈ [segB], FineG c := fun c h => by simp at h; subst h; exact ⟨by simp [segB, classL], by simp [segB]⟩
 have hx : faultG [segB] = 0 := by
  simp only [faultG, faultGs, chkG, segB, keyB_c]; rfl
 have hm : faultMay [segB] [99] 6 3 1 0 = 0 := by
  simp only [faultMay, faultN, nameF, hx, keyB_c]; rfl
 have hp : permL [99] 1 0 [] [segB] = [⟨5, 8⟩] := by rfl
 have hr : rowsL [⟨5, 8⟩] [] = [⟨5, 8⟩] := can_one (rows_can _ _).1 (can_cons.2 ⟨by decide, (fun x h => by cases h), can_nil⟩) fun n => by rw [(rows_can _ _).2]; simp [cov]
 have hu : usedR 6 3 = ⟨5, 8⟩ := by rfl
 have hy : mayR [segB] [99] 6 3 1 0 = true := by
  unfold mayR
  rw [hp, hr, hu]; rfl
 have h := band_May_is hf (by simp) (show ([99] : List UInt8) ∈ classL by simp [classL]) 6 3 1 0 R (fun r1 r2 => bif r2 == 0 then k r1 else k false)
 rw [hm, hy] at h
 exact h
end Go.Am
