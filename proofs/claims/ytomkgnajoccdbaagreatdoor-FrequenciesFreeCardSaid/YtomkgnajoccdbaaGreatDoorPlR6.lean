/- The plain law, in Lean alone: R6, R7. No condition: lemmas for the claim. -/
import Derived.Test.YtomkgnajoccdbaaGreatDoorPlR4
set_option linter.unusedVariables false
set_option linter.unusedSectionVars false
set_option linter.unusedSimpArgs false
set_option maxRecDepth 100000
namespace Go.Am
open Go Go.Proofs
variable [Fuel]
theorem Stream_Near_gives {b : Int} {s : G_Stream} (hs : SOk b s) (hb : b ≤ 1000000) :
    ∃ (r : Int) (s' : G_Stream), SOk (b + 3) s' ∧ ∀ (R : Type) (k : Int → G_Stream → Option R), Stream_Near s k = k r s' := by
  obtain ⟨f, s1, z1, e1⟩ := Stream_Flip_gives hs 20 (by omega) (by omega)
  cases f with
  | true =>
    obtain ⟨x1, t1, x11, x12, y1, f1⟩ := Stream_Odd_gives z1 0 30000000000 (by omega) (by omega) (by omega) (by omega) (by omega)
    exact ⟨x1, t1, y1.mono (by omega), fun R k => by simp only [Stream_Near, Stream_Near_, I_Stream_Near, e1, cond_true, f1]⟩
  | false =>
    obtain ⟨x1, t1, x11, x12, y1, f1⟩ := Stream_Range_gives z1 0 330 (by omega) (by omega) (by omega) (by omega) (by omega)
    exact ⟨x1, t1, y1.mono (by omega), fun R k => by simp only [Stream_Near, Stream_Near_, I_Stream_Near, e1, cond_false, f1]⟩
theorem Stream_Wide_gives {b : Int} {s : G_Stream} (hs : SOk b s) (hb : b ≤ 1000000) :
    ∃ (r : Int) (s' : G_Stream), SOk (b + 1) s' ∧ ∀ (R : Type) (k : Int → G_Stream → Option R), Stream_Wide s k = k r s' := by
  obtain ⟨r, s1, _, z1, e1⟩ := Stream_Pick_gives hs [1, 2, 3, 4, 10, 10, 25, 101, 0, 100000, 100001] (by omega) (by simp) (by simp)
  exact ⟨r, s1, z1, fun R k => by simp only [Stream_Wide, Stream_Wide_, I_Stream_Wide, e1]⟩
noncomputable def nameF (c : List UInt8) : Int := bif !keyB c then 5 else 0
def outF (x lo hi e : Int) : Int := bif !inB x lo hi then e else 0
def momF (x : Int) : Int := bif momB x then 0 else 1
theorem law_nameFault_is {c : List UInt8} (h : c ∈ classL) (R : Type) (k : Int → Option R) : law_nameFault c k = k (nameF c) := by
  simp only [law_nameFault, law_nameFault_, I_law_nameFault, Q_Key_cls h, law_when, law_when_, nameF]
  cases keyB c <;> rfl
theorem inB_two (x lo hi : Int) : inB x lo hi = bif decide (x < lo) then false else !decide (x > hi) := by
  unfold inB
  by_cases h1 : x < lo
  · rw [decide_eq_true h1, decide_eq_false (show ¬ lo ≤ x by omega)]; rfl
  · rw [decide_eq_false h1, decide_eq_true (show lo ≤ x by omega)]
    simp only [cond_true, cond_false, ← decide_not]
    exact decide_eq_decide.2 (by omega)
theorem law_modeFault_is (x : Int) (R : Type) (k : Int → Option R) : law_modeFault x k = k (outF x 1 3 4) := by
  simp only [law_modeFault, law_modeFault_, I_law_modeFault, law_when, law_when_, outF, inB_two]
  cases decide (x < 1) <;> cases decide (x > 3) <;> rfl
theorem law_hertzFault_is (x : Int) (R : Type) (k : Int → Option R) : law_hertzFault x k = k (outF x 0 30000000000 1) := by
  simp only [law_hertzFault, law_hertzFault_, I_law_hertzFault, law_when, law_when_, outF, inB_two]
  cases decide (x < 0) <;> cases decide (x > 30000000000) <;> rfl
theorem law_widthFault_is (x : Int) (R : Type) (k : Int → Option R) : law_widthFault x k = k (outF x 1 100000 1) := by
  simp only [law_widthFault, law_widthFault_, I_law_widthFault, law_when, law_when_, outF, inB_two]
  cases decide (x < 1) <;> cases decide (x > 100000) <;> rfl
noncomputable def faultN (l : List G_Segment) (c : List UInt8) : Int := orL [faultG l, nameF c]
noncomputable def faultMay (l : List G_Segment) (c : List UInt8) (hertz width mode at0 : Int) : Int := orL [faultN l c, outF hertz 0 30000000000 1, outF width 1 100000 1, outF mode 1 3 4, momF at0]
noncomputable def mayR (l : List G_Segment) (c : List UInt8) (hertz width mode at0 : Int) : Bool := (rowsL (permL c mode at0 [] l) []).any fun r => decide (r.f_From ≤ (usedR hertz width).f_From) && decide ((usedR hertz width).f_To ≤ r.f_To)
theorem modes_of {l : List G_Segment} (hf : ∀ c ∈ l, FineG c) : ∀ s ∈ l, s.f_Modes.length ≤ 1000 := fun s h => (hf s h).modes
theorem band_May_is {l : List G_Segment} (hf : ∀ c ∈ l, FineG c) (hl : l.length ≤ 400) {c : List UInt8} (hc : c ∈ classL) (hertz width mode at0 : Int) (R : Type) (k : Bool → Int → Option R) :
    band_May l c hertz width mode at0 k = bif faultMay l c hertz width mode at0 != 0 then k false (faultMay l c hertz width mode at0) else k (mayR l c hertz width mode at0) 0 := by
  have hu : ∀ k : G_Row → Option R, band_used hertz width k = k (usedR hertz width) := fun k => rfl
  simp only [band_May, band_May_, I_band_May, band_CheckSegments_is hf (show l.length ≤ 100000 by omega), kit_IsKey_cls hc, kit_Outside_is, kit_IsMode_is, kit_IsMoment_is, hu, faultMay, faultN, nameF, outF, momF, orL]
  cases h1 : faultG l != 0 with
  | true => simp only [cond_true, h1]
  | false =>
    have hz : faultG l = 0 := by simpa using h1
    obtain ⟨p1, p2⟩ := band_permitted_is (modes_of hf) (faultG_good hz) (show l.length ≤ 500 by omega) c mode at0
    simp only [cond_false, p2, con_may (show (rowsL (permL c mode at0 [] l) []).length ≤ 100000 by omega)]
    cases keyB c <;> cases inB hertz 0 30000000000 <;> cases inB width 1 100000 <;> cases inB mode 1 3 <;> cases momB at0 <;> rfl
end Go.Am
set_option linter.unusedVariables false
set_option linter.unusedSectionVars false
set_option linter.unusedSimpArgs false
set_option maxRecDepth 100000
namespace Go.Am
open Go Go.Proofs
variable [Fuel]
def segB : G_Segment := ⟨[99], 5, 8, [1], ⟨0, 9⟩⟩
theorem keyB_c : keyB [99] = true := by
  obtain ⟨m, h, rfl⟩ := fuel_is ‹Fuel›
  kernel_rfl
theorem law_banded_is (R : Type) (k : Bool → Option R) : law_banded k = k true := by
  have hf : ∀ c ∈ [segB], FineG c := fun c h => by simp at h; subst h; exact ⟨by simp [segB, classL], by simp [segB]⟩
  have hx : faultG [segB] = 0 := by
    simp only [faultG, faultGs, chkG, segB, keyB_c]; rfl
  have hm : faultMay [segB] [99] 6 3 1 0 = 0 := by
    simp only [faultMay, faultN, nameF, hx, keyB_c]; rfl
  have hp : permL [99] 1 0 [] [segB] = [⟨5, 8⟩] := by rfl
  have hr : rowsL [⟨5, 8⟩] [] = [⟨5, 8⟩] := can_one (rows_can _ _).1 (can_cons.2 ⟨by decide, (fun x h => by cases h), can_nil⟩) fun n => by rw [(rows_can _ _).2]; simp [cov]
  have hu : usedR 6 3 = ⟨5, 8⟩ := by rfl
  have hy : mayR [segB] [99] 6 3 1 0 = true := by
    unfold mayR
    rw [hp, hr, hu]; rfl
  have h := band_May_is hf (by simp) (show ([99] : List UInt8) ∈ classL by simp [classL]) 6 3 1 0 R (fun r1 r2 => bif r2 == 0 then k r1 else k false)
  rw [hm, hy] at h
  exact h
theorem equalR_is {l : List G_Row} (hl : l.length ≤ 1000000) (R : Type) (k : Bool → Option R) : slices_Equal__Row l l k = k true := by
  rw [li_slices_Equal__Row]; exact sEqual_same (by have := NN_ok; omega) (by have := NN_ok; omega) (fun x => by rw [(eq_G_Row_is x x).2 rfl]; rfl) k
theorem zero_or (x : Int) : x = 0 ∨ ((x != 0) = true ∧ (x == 0) = false) := by
  by_cases h : x = 0
  · exact .inl h
  · exact .inr ⟨by simp [h], by simp [h]⟩
end Go.Am
