/- The plain law, in Lean alone: R6, R7. No condition: lemmas for the claim. -/
import Derived.Test.YtecelackdggokaaGreatDoorPlR5
set_option linter.unusedVariables false
set_option linter.unusedSectionVars false
set_option linter.unusedSimpArgs false
set_option maxRecDepth 100000
namespace Go.Am
open Go Go.Proofs
variable [Fuel]
theorem Stream_Near_gives {b : Int} {s : G_Stream} (hs : SOk b s) (hb : b ≤ 1000000) :
    ∃ (r : Int) (s' : G_Stream), SOk (b + 3) s' ∧ ∀ (R : Type) (k : Int → G_Stream → Option R), Stream_Near s k = k r s' := by
  obtain ⟨f, s1, z1, e1⟩ := Stream_Flip_gives hs 20 (by omega) (by omega)
  cases f with
  | true =>
    obtain ⟨x1, t1, x11, x12, y1, f1⟩ := Stream_Odd_gives z1 0 30000000000 (by omega) (by omega) (by omega) (by omega) (by omega)
    exact ⟨x1, t1, y1.mono (by omega), fun R k => by simp only [Stream_Near, Stream_Near_, I_Stream_Near, e1, cond_true, f1]⟩
  | false =>
    obtain ⟨x1, t1, x11, x12, y1, f1⟩ := Stream_Range_gives z1 0 330 (by omega) (by omega) (by omega) (by omega) (by omega)
    exact ⟨x1, t1, y1.mono (by omega), fun R k => by simp only [Stream_Near, Stream_Near_, I_Stream_Near, e1, cond_false, f1]⟩
theorem Stream_Wide_gives {b : Int} {s : G_Stream} (hs : SOk b s) (hb : b ≤ 1000000) :
    ∃ (r : Int) (s' : G_Stream), SOk (b + 1) s' ∧ ∀ (R : Type) (k : Int → G_Stream → Option R), Stream_Wide s k = k r s' := by
  obtain ⟨r, s1, _, z1, e1⟩ := Stream_Pick_gives hs [1, 2, 3, 4, 10, 10, 25, 101, 0, 100000, 100001] (by omega) (by simp) (by simp)
  exact ⟨r, s1, z1, fun R k => by simp only [Stream_Wide, Stream_Wide_, I_Stream_Wide, e1]⟩
noncomputable def nameF (c : List UInt8) : Int := bif !keyB c then 5 else 0
def outF (x lo hi e : Int) : Int := bif !inB x lo hi then e else 0
def momF (x : Int) : Int := bif momB x then 0 else 1
theorem law_nameFault_is {c : List UInt8} (h : c ∈ classL) (R : Type) (k : Int → Option R) : law_nameFault c k = k (nameF c) := by
  simp only [law_nameFault, law_nameFault_, I_law_nameFault, Q_Key_cls h, law_when, law_when_, nameF]
  cases keyB c <;> rfl
theorem inB_two (x lo hi : Int) : inB x lo hi = bif decide (x < lo) then false else !decide (x > hi) := by
  unfold inB
  by_cases h1 : x < lo
  · rw [decide_eq_true h1, decide_eq_false (show ¬ lo ≤ x by omega)]; rfl
  · rw [decide_eq_false h1, decide_eq_true (show lo ≤ x by omega)]
    simp only [cond_true, cond_false, ← decide_not]
    exact decide_eq_decide.2 (by omega)
theorem law_modeFault_is (x : Int) (R : Type) (k : Int → Option R) : law_modeFault x k = k (outF x 1 3 4) := by
  simp only [law_modeFault, law_modeFault_, I_law_modeFault, law_when, law_when_, outF, inB_two]
  cases decide (x < 1) <;> cases decide (x > 3) <;> rfl
theorem law_hertzFault_is (x : Int) (R : Type) (k : Int → Option R) : law_hertzFault x k = k (outF x 0 30000000000 1) := by
  simp only [law_hertzFault, law_hertzFault_, I_law_hertzFault, law_when, law_when_, outF, inB_two]
  cases decide (x < 0) <;> cases decide (x > 30000000000) <;> rfl
theorem law_widthFault_is (x : Int) (R : Type) (k : Int → Option R) : law_widthFault x k = k (outF x 1 100000 1) := by
  simp only [law_widthFault, law_widthFault_, I_law_widthFault, law_when, law_when_, outF, inB_two]
  cases decide (x < 1) <;> cases decide (x > 100000) <;> rfl
noncomputable def faultN (l : List G_Segment) (c : List UInt8) : Int := orL [faultG l, nameF c]
noncomputable def faultMay (l : List G_Segment) (c : List UInt8) (hertz width mode at0 : Int) : Int := orL [faultN l c, outF hertz 0 30000000000 1, outF width 1 100000 1, outF mode 1 3 4, momF at0]
noncomputable def faultWin (l : List G_Segment) (c : List UInt8) (mode at0 : Int) : Int := orL [faultN l c, outF mode 1 3 4, momF at0]
noncomputable def faultLost (l : List G_Segment) (c : List UInt8) (at0 to : Int) : Int := orL [faultN l c, momF at0, momF to]
noncomputable def mayR (l : List G_Segment) (c : List UInt8) (hertz width mode at0 : Int) : Bool := (rowsL (permL c mode at0 [] l) []).any fun r => decide (r.f_From ≤ (usedR hertz width).f_From) && decide ((usedR hertz width).f_To ≤ r.f_To)
theorem modes_of {l : List G_Segment} (hf : ∀ c ∈ l, FineG c) : ∀ s ∈ l, s.f_Modes.length ≤ 1000 := fun s h => (hf s h).modes
theorem band_May_is {l : List G_Segment} (hf : ∀ c ∈ l, FineG c) (hl : l.length ≤ 400) {c : List UInt8} (hc : c ∈ classL) (hertz width mode at0 : Int) (R : Type) (k : Bool → Int → Option R) :
    band_May l c hertz width mode at0 k = bif faultMay l c hertz width mode at0 != 0 then k false (faultMay l c hertz width mode at0) else k (mayR l c hertz width mode at0) 0 := by
  have hu : ∀ k : G_Row → Option R, band_used hertz width k = k (usedR hertz width) := fun k => rfl
  simp only [band_May, band_May_, I_band_May, band_CheckSegments_is hf (show l.length ≤ 100000 by omega), kit_IsKey_cls hc, kit_Outside_is, kit_IsMode_is, kit_IsMoment_is, hu, faultMay, faultN, nameF, outF, momF, orL]
  cases h1 : faultG l != 0 with
  | true => simp only [cond_true, h1]
  | false =>
    have hz : faultG l = 0 := by simpa using h1
    obtain ⟨p1, p2⟩ := band_permitted_is (modes_of hf) (faultG_good hz) (show l.length ≤ 500 by omega) c mode at0
    simp only [cond_false, p2, con_may (show (rowsL (permL c mode at0 [] l) []).length ≤ 100000 by omega)]
    cases keyB c <;> cases inB hertz 0 30000000000 <;> cases inB width 1 100000 <;> cases inB mode 1 3 <;> cases momB at0 <;> rfl
theorem band_Windows_is {l : List G_Segment} (hf : ∀ c ∈ l, FineG c) (hl : l.length ≤ 400) {c : List UInt8} (hc : c ∈ classL) (mode at0 : Int) (R : Type) (k : List G_Row → Int → Option R) :
    band_Windows l c mode at0 k = bif faultWin l c mode at0 != 0 then k [] (faultWin l c mode at0) else k (rowsL (permL c mode at0 [] l) []) 0 := by
  simp only [band_Windows, band_Windows_, I_band_Windows, band_CheckSegments_is hf (show l.length ≤ 100000 by omega), kit_IsKey_cls hc, kit_IsMode_is, kit_IsMoment_is, faultWin, faultN, nameF, outF, momF, orL]
  cases h1 : faultG l != 0 with
  | true => simp only [cond_true, h1]
  | false =>
    have hz : faultG l = 0 := by simpa using h1
    obtain ⟨p1, p2⟩ := band_permitted_is (modes_of hf) (faultG_good hz) (show l.length ≤ 500 by omega) c mode at0
    simp only [cond_false, p2]
    cases keyB c <;> cases inB mode 1 3 <;> cases momB at0 <;> rfl
theorem band_Lost_is {l : List G_Segment} (hf : ∀ c ∈ l, FineG c) (hl : l.length ≤ 400) {c : List UInt8} (hc : c ∈ classL) (at0 to : Int) (R : Type) (k : List G_Row → Int → Option R) :
    band_Lost l c at0 to k = bif faultLost l c at0 to != 0 then k [] (faultLost l c at0 to) else k (rowsL (permL c 0 at0 [] l) (permL c 0 to [] l)) 0 := by
  simp only [band_Lost, band_Lost_, I_band_Lost, band_CheckSegments_is hf (show l.length ≤ 100000 by omega), kit_IsKey_cls hc, kit_IsMoment_is, faultLost, faultN, nameF, momF, orL]
  cases h1 : faultG l != 0 with
  | true => simp only [cond_true, h1]
  | false =>
    have hz : faultG l = 0 := by simpa using h1
    obtain ⟨p1, p2⟩ := band_permitted_is (modes_of hf) (faultG_good hz) (show l.length ≤ 500 by omega) c 0 at0
    obtain ⟨q1, q2⟩ := band_permitted_is (modes_of hf) (faultG_good hz) (show l.length ≤ 500 by omega) c 0 to
    simp only [cond_false, p2, q2, lost_one _ _ (show (rowsL (permL c 0 at0 [] l) []).length ≤ 500 by omega) (show (rowsL (permL c 0 to [] l) []).length ≤ 500 by omega)]
    cases keyB c <;> cases momB at0 <;> cases momB to <;> rfl
end Go.Am
set_option linter.unusedVariables false
set_option linter.unusedSectionVars false
set_option linter.unusedSimpArgs false
set_option maxRecDepth 100000
namespace Go.Am
open Go Go.Proofs
variable [Fuel]
def segB : G_Segment := ⟨[99], 5, 8, [1], ⟨0, 9⟩⟩
theorem keyB_c : keyB [99] = true := by
  obtain ⟨m, h, rfl⟩ := fuel_is ‹Fuel›
  kernel_rfl
theorem law_banded_is (R : Type) (k : Bool → Option R) : law_banded k = k true := by
  have hf : ∀ c ∈ [segB], FineG c := fun c h => by simp at h; subst h; exact ⟨by simp [segB, classL], by simp [segB]⟩
  have hx : faultG [segB] = 0 := by
    simp only [faultG, faultGs, chkG, segB, keyB_c]; rfl
  have hm : faultMay [segB] [99] 6 3 1 0 = 0 := by
    simp only [faultMay, faultN, nameF, hx, keyB_c]; rfl
  have hp : permL [99] 1 0 [] [segB] = [⟨5, 8⟩] := by rfl
  have hr : rowsL [⟨5, 8⟩] [] = [⟨5, 8⟩] := can_one (rows_can _ _).1 (can_cons.2 ⟨by decide, (fun x h => by cases h), can_nil⟩) fun n => by rw [(rows_can _ _).2]; simp [cov]
  have hu : usedR 6 3 = ⟨5, 8⟩ := by rfl
  have hy : mayR [segB] [99] 6 3 1 0 = true := by
    unfold mayR
    rw [hp, hr, hu]; rfl
  have h := band_May_is hf (by simp) (show ([99] : List UInt8) ∈ classL by simp [classL]) 6 3 1 0 R (fun r1 r2 => bif r2 == 0 then k r1 else k false)
  rw [hm, hy] at h
  exact h
theorem equalR_is {l : List G_Row} (hl : l.length ≤ 1000000) (R : Type) (k : Bool → Option R) : slices_Equal__Row l l k = k true := by
  rw [li_slices_Equal__Row]; exact sEqual_same (by have := NN_ok; omega) (by have := NN_ok; omega) (fun x => by rw [(eq_G_Row_is x x).2 rfl]; rfl) k
theorem rowsL_len {P W : List G_Row} (hP : P.length ≤ 500) (hW : W.length ≤ 500) : (rowsL P W).length ≤ 1000000 := by
  have h1 := edgesOf_len (P ++ W)
  have h2 : ∀ (es : List Int) (f : Int → Bool) (out : List G_Row), (edgeL f out es).length ≤ out.length + es.length := by
    intro es
    induction es with
    | nil => intro f out; simp [edgeL]
    | cons a es ih =>
      intro f out
      cases es with
      | nil => simp [edgeL]
      | cons b rest =>
        unfold edgeL
        have h3 := ih f (bif f a then addE out a b else out)
        have h4 := addE_len out a b
        cases hq : f a <;> rw [hq] at h3 <;> simp only [cond_true, cond_false] at h3 ⊢ <;> simp only [List.length_cons] at h3 ⊢ <;> omega
  have h3 := h2 (edgesOf (P ++ W)) (fun n => cov P n && !cov W n) []
  unfold rowsL
  simp at h1 h3
  omega
theorem SP_J14 (c : List UInt8) (hc : c ∈ classL) (hertz width mode at0 : Int) (f2 f3 : Int) (l : List G_Segment) (hf : ∀ c ∈ l, FineG c) (hl : l.length ≤ 4) (a b : List G_Row) (ha : a.length ≤ 1000000) (hb : b.length ≤ 1000000) (R : Type) (k : Bool → Option R) :
    law_SegmentsPermit_J14 I_law_SegmentsPermit c hertz width mode at0 (bif faultMay l c hertz width mode at0 != 0 then false else mayR l c hertz width mode at0) (faultMay l c hertz width mode at0) f2 f3 (faultMay l c hertz width mode at0) f2 f3 l a b a b k = k true := by
  have hu : ∀ k : G_Row → Option R, Q_uses hertz width k = k (usedR hertz width) := fun k => rfl
  have hpl := permL_len c mode at0 l []
  have hmay : faultMay l c hertz width mode at0 = 0 → ∀ k : Bool → Option R, Q_MayFor l c hertz width mode at0 k = k (mayR l c hertz width mode at0) := fun hz k => by
    have h1 : inB hertz 0 30000000000 = true := by
      have := (orL_zero.1 hz) (outF hertz 0 30000000000 1) (by simp)
      cases hq : inB hertz 0 30000000000 with
      | true => rfl
      | false => simp [outF, hq] at this
    have h2 : inB width 1 100000 = true := by
      have := (orL_zero.1 hz) (outF width 1 100000 1) (by simp)
      cases hq : inB width 1 100000 with
      | true => rfl
      | false => simp [outF, hq] at this
    have h1 := inB_is.1 h1
    have h2 := inB_is.1 h2
    simp only [Q_MayFor, Q_MayFor_, I_Q_MayFor, hu, Q_permitted_is (modes_of hf) (show l.length ≤ 1000 by omega), Q_rowsOf_is (show [usedR hertz width].length ≤ 500 by simp) (show (permL c mode at0 [] l).length ≤ 500 by simp at hpl; omega)]
    unfold mayR
    rw [may_one _ (used_lt h1.1 h1.2 h2.1 h2.2)]
  simp only [law_SegmentsPermit_J14, I_law_SegmentsPermit, band_CheckSegments_is hf (show l.length ≤ 100000 by omega), Q_SegmentsFault_is hf (show l.length ≤ 100000 by omega), beq_self_eq_true, cond_true, equalR_is ha, equalR_is hb, law_banded_is]
  cases h : faultMay l c hertz width mode at0 != 0 with
  | true =>
    have h2 : (faultMay l c hertz width mode at0 == 0) = false := by simpa using h
    simp only [cond_true, h2, cond_false, beq_self_eq_true]
  | false =>
    have h2 : faultMay l c hertz width mode at0 = 0 := by simpa using h
    have h3 : (faultMay l c hertz width mode at0 == 0) = true := by simp [h2]
    simp only [cond_false, h3, cond_true, hmay h2, beq_self_eq_true]
theorem zero_or (x : Int) : x = 0 ∨ ((x != 0) = true ∧ (x == 0) = false) := by
  by_cases h : x = 0
  · exact .inl h
  · exact .inr ⟨by simp [h], by simp [h]⟩
theorem law_SegmentsPermit_true (l : List Int) (R : Type) (k : Bool → Option R) : law_SegmentsPermit l k = k true := by
  obtain ⟨x, s1, z1, lx, hx, e1⟩ := Stream_Segments_gives (sOk0 l) (by omega)
  obtain ⟨c, s2, hc, z2, e2⟩ := Stream_Some_gives z1 [[102, 117, 108, 108], [102, 117, 108, 108], [115, 109, 97, 108, 108], [110, 111, 110, 101], []] (by omega) (by simp) (by simp)
  obtain ⟨hertz, s3, z3, e3⟩ := Stream_Near_gives z2 (by omega)
  obtain ⟨width, s4, z4, e4⟩ := Stream_Wide_gives z3 (by omega)
  obtain ⟨mode, s5, _, z5, e5⟩ := Stream_Pick_gives z4 [1, 1, 2, 3, 0, 4] (by omega) (by simp) (by simp)
  obtain ⟨at0, s6, _, z6, e6⟩ := Stream_Pick_gives z5 [0, 20, 60, 200, (-1)] (by omega) (by simp) (by simp)
  obtain ⟨to, s7, _, z7, e7⟩ := Stream_Pick_gives z6 [0, 20, 60, 200, 2000, (-1)] (by omega) (by simp) (by simp)
  have hcl : c ∈ classL := sub_mem hc (by decide)
  have p1 := permL_len c mode at0 x []
  have p2 := permL_len c 0 at0 x []
  have p3 := permL_len c 0 to x []
  simp only [List.length_nil] at p1 p2 p3
  have r1 := rowsL_len (P := permL c mode at0 [] x) (W := []) (by omega) (by simp)
  have r2 := rowsL_len (P := permL c 0 at0 [] x) (W := permL c 0 to [] x) (by omega) (by omega)
  have hQM : ∀ (y : Int) (k : Int → Option R), Q_MomentFault y k = k (momF y) := fun y k => Q_MomentFault_is y R k
  have hwin : ∀ k : List G_Row → Option R, Q_WindowsOf x c mode at0 k = k (rowsL (permL c mode at0 [] x) []) := fun k => by
    simp only [Q_WindowsOf, Q_WindowsOf_, I_Q_WindowsOf, Q_permitted_is (modes_of hx) (show x.length ≤ 1000 by omega), Q_rowsOf_n1_is (show (permL c mode at0 [] x).length ≤ 500 by omega)]
  have hlost : ∀ k : List G_Row → Option R, Q_LostOfClass x c at0 to k = k (rowsL (permL c 0 at0 [] x) (permL c 0 to [] x)) := fun k => by
    simp only [Q_LostOfClass, Q_LostOfClass_, I_Q_LostOfClass, Q_permitted_is (modes_of hx) (show x.length ≤ 1000 by omega), Q_rowsOf_is (show (permL c 0 at0 [] x).length ≤ 500 by omega) (show (permL c 0 to [] x).length ≤ 500 by omega)]
  have hj := fun f2 f3 a b ha hb => SP_J14 c hcl hertz width mode at0 f2 f3 x hx lx a b ha hb R k
  simp only [I_law_SegmentsPermit] at hj
  have f1 : orL [orL [faultG x, nameF c], outF hertz 0 30000000000 1, outF width 1 100000 1, outF mode 1 3 4, momF at0] = faultMay x c hertz width mode at0 := rfl
  have f2 : orL [orL [faultG x, nameF c], outF mode 1 3 4, momF at0] = faultWin x c mode at0 := rfl
  have f3 : orL [orL [faultG x, nameF c], momF at0, momF to] = faultLost x c at0 to := rfl
  simp only [law_SegmentsPermit, law_SegmentsPermit_, I_law_SegmentsPermit, e1, e2, e3, e4, e5, e6, e7, band_May_is hx (show x.length ≤ 400 by omega) hcl, band_Windows_is hx (show x.length ≤ 400 by omega) hcl, band_Lost_is hx (show x.length ≤ 400 by omega) hcl,
    Q_SegmentsFault_is hx (show x.length ≤ 100000 by omega), law_nameFault_is hcl, law_hertzFault_is, law_widthFault_is, law_modeFault_is, hQM,
    law_errs_is [faultG x, nameF c] (by simp), law_errs_is [orL [faultG x, nameF c], outF hertz 0 30000000000 1, outF width 1 100000 1, outF mode 1 3 4, momF at0] (by simp), law_errs_is [orL [faultG x, nameF c], outF mode 1 3 4, momF at0] (by simp), law_errs_is [orL [faultG x, nameF c], momF at0, momF to] (by simp), f1, f2, f3, hwin, hlost, law_SegmentsPermit_J12]
  rcases zero_or (faultMay x c hertz width mode at0) with y1 | y1 <;> rcases zero_or (faultWin x c mode at0) with y2 | y2 <;> rcases zero_or (faultLost x c at0 to) with y3 | y3 <;>
    simp only [y1, y2, y3, cond_true, cond_false, beq_self_eq_true, bne_self_eq_false] at hj ⊢ <;> exact hj _ _ _ _ (by first | exact r1 | simp) (by first | exact r2 | simp)
end Go.Am
