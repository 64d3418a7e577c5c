/- The plain law, in Lean alone: Q3, Q4. No condition: lemmas for the claim. -/
import Derived.Test.YtfifleplhegkdaaGreatDoorPlR7
set_option linter.unusedVariables false
set_option linter.unusedSectionVars false
set_option linter.unusedSimpArgs false
set_option maxRecDepth 100000
namespace Go.Am
open Go Go.Proofs
variable [Fuel]
def farI (n wish : Int) : Int := if w64 (wish - n) > w64 (n - wish) then w64 (wish - n) else w64 (n - wish)
def clampI (wish : Int) (r : G_Row) : Int := if w64 (r.f_To - 1) < (if r.f_From > wish then r.f_From else wish) then w64 (r.f_To - 1) else (if r.f_From > wish then r.f_From else wish)
def nearestL (wish : Int) : Int → Bool → List G_Row → Int × Bool
 | b, s, [] => (b, s)
 | b, s, r :: rs => bif !s then nearestL wish (clampI wish r) true rs else bif decide (farI (clampI wish r) wish < farI b wish) then nearestL wish (clampI wish r) true rs else nearestL wish b s rs
theorem band_Nearest_L9_is (wish : Int) (l : List G_Row) (hl : l.length ≤ 100000) : ∀ (xs : List G_Row) (n i : Nat) (b : Int) (s : Bool), l.drop i = xs → xs.length < n →
  ∀ (R : Type) (e0 : Int → Bool → Option R), band_Nearest_L9 I_band_Nearest n b s (l.length : Int) (i : Int) wish l e0 = e0 (nearestL wish b s xs).1 (nearestL wish b s xs).2
 | _, 0, _, _, _, _, h, _, _ => by omega
 | [], n + 1, i, b, s, h, _, R, e0 => by rw [band_Nearest_L9, ge_drop h]; rfl
 | r :: xs, n + 1, i, b, s, h, hn, R, e0 => by
  have h' := drop_cons h
  simp at hn
  have ih := fun b s => band_Nearest_L9_is wish l hl xs n (i + 1) b s h'.2.2.1 (by omega) R e0
  have hk : ∀ (x y : Int) (k : Int → Int → Option R), I_band_Nearest.band_Nearest_1 x y k = k (farI x y) y := fun x y k => rfl
  rw [band_Nearest_L9, lt_drop h]
  simp only [cond_true, inr_drop h, at_drop h, w64_succ (show i < 4611686018427387904 by omega), hk]
  show (bif !s then band_Nearest_L9 I_band_Nearest n (clampI wish r) true (l.length : Int) ((i + 1 : Nat) : Int) wish l e0 else bif decide (farI (clampI wish r) wish < farI b wish) then band_Nearest_L9 I_band_Nearest n (clampI wish r) true (l.length : Int) ((i + 1 : Nat) : Int) wish l e0 else band_Nearest_L9 I_band_Nearest n b s (l.length : Int) ((i + 1 : Nat) : Int) wish l e0) = _
  rw [ih, ih]
  simp only [nearestL]
  cases s <;> cases decide (farI (clampI wish r) wish < farI b wish) <;> rfl
end Go.Am
set_option linter.unusedVariables false
set_option linter.unusedSectionVars false
set_option linter.unusedSimpArgs false
set_option maxRecDepth 100000
namespace Go.Am
open Go Go.Proofs
variable [Fuel]
noncomputable def faultFree (l : List G_Segment) (ul : List G_Busy) (c : List UInt8) (mode w at0 : Int) : Int := orL [faultG l, faultU ul, nameF c, outF mode 1 3 4, outF w 1 100000 1, momF at0]
theorem band_freeFault_is {l : List G_Segment} (hf : ∀ c ∈ l, FineG c) (hl : l.length ≤ 400) {ul : List G_Busy} (hu : ∀ c ∈ ul, FineU c) (hul : ul.length ≤ 200) {c : List UInt8} (hc : c ∈ classL) (mode w at0 : Int) (R : Type) (k : Int → Option R) :
  band_freeFault l ul c mode w at0 k = k (faultFree l ul c mode w at0) := by
 have h1 : ∀ k : Int → Option R, I_band_freeFault.band_CheckSegments l k = k (faultG l) := fun k => band_CheckSegments_is hf (by omega) R k
 have h2 : ∀ k : Int → Option R, I_band_freeFault.band_CheckBusy ul k = k (faultU ul) := fun k => band_CheckBusy_is hu (by omega) R k
 have h3 : ∀ k : Bool → Option R, I_band_freeFault.kit_IsKey c k = k (keyB c) := fun k => kit_IsKey_cls hc R k
 have h4 : ∀ k : Bool → Option R, I_band_freeFault.kit_IsMode mode k = k (inB mode 1 3) := fun k => kit_IsMode_is mode R k
 have h5 : ∀ k : Bool → Option R, I_band_freeFault.kit_Outside w 1 100000 k = k (!inB w 1 100000) := fun k => kit_Outside_is w 1 100000 R k
 have h6 : ∀ k : Bool → Option R, I_band_freeFault.kit_IsMoment at0 k = k (momB at0) := fun k => kit_IsMoment_is at0 R k
 simp only [band_freeFault, band_freeFault_, h1, h2, h3, h4, h5, h6, faultFree, orL, nameF, outF, momF]
 cases faultG l != 0 with
 | true => rfl
 | false =>
  cases faultU ul != 0 with
  | true => rfl
  | false => cases keyB c <;> cases inB mode 1 3 <;> cases inB w 1 100000 <;> cases momB at0 <;> rfl
theorem band_Free_is {l : List G_Segment} (hf : ∀ c ∈ l, FineG c) (hl : l.length ≤ 400) {ul : List G_Busy} (hu : ∀ c ∈ ul, FineU c) (hul : ul.length ≤ 200) {c : List UInt8} (hc : c ∈ classL) (mode w at0 : Int) (R : Type) (k : List G_Row → Int → Option R) :
  band_Free l ul c mode w at0 k = bif faultFree l ul c mode w at0 != 0 then k [] (faultFree l ul c mode w at0) else k (freeL l ul c mode w at0) 0 := by
 have h1 : ∀ k : Int → Option R, I_band_Free.band_freeFault l ul c mode w at0 k = k (faultFree l ul c mode w at0) := fun k => band_freeFault_is hf hl hu hul hc mode w at0 R k
 simp only [band_Free, band_Free_, h1]
 rcases zero_or (faultFree l ul c mode w at0) with y | y
 ·have z := orL_zero.1 y
  have hg : ∀ s ∈ l, GoodG s := faultG_good (z _ (by simp))
  have hgu : ∀ s ∈ ul, GoodU s := faultU_good (z _ (by simp))
  have hw : inB w 1 100000 = true := by
   have := z (outF w 1 100000 1) (by simp)
   cases hq : inB w 1 100000 with
   | true => rfl
   | false => simp [outF, hq] at this
  have hw := inB_is.1 hw
  have h2 : ∀ k : List G_Row → Option R, I_band_Free.band_free l ul c mode w at0 k = k (freeL l ul c mode w at0) := fun k => band_free_is (modes_of hf) hg hl hgu (by omega) c mode at0 hw.1 hw.2 R k
  rw [y, h2]
 ·rw [y.1]; rfl
theorem band_Nearest_is {l : List G_Segment} (hf : ∀ c ∈ l, FineG c) (hl : l.length ≤ 400) {ul : List G_Busy} (hu : ∀ c ∈ ul, FineU c) (hul : ul.length ≤ 200) {c : List UInt8} (hc : c ∈ classL) (mode w at0 wish : Int) (R : Type) (k : Int → Bool → Int → Option R) :
  band_Nearest l ul c mode w at0 wish k = bif faultFree l ul c mode w at0 != 0 then k 0 false (faultFree l ul c mode w at0) else bif outF wish 0 30000000000 1 != 0 then k 0 false (outF wish 0 30000000000 1) else k (nearestL wish 0 false (freeL l ul c mode w at0)).1 (nearestL wish 0 false (freeL l ul c mode w at0)).2 0 := by
 have h1 : ∀ k : Int → Option R, I_band_Nearest.band_freeFault l ul c mode w at0 k = k (faultFree l ul c mode w at0) := fun k => band_freeFault_is hf hl hu hul hc mode w at0 R k
 have h5 : ∀ k : Bool → Option R, I_band_Nearest.kit_Outside wish 0 30000000000 k = k (!inB wish 0 30000000000) := fun k => kit_Outside_is wish 0 30000000000 R k
 simp only [band_Nearest, band_Nearest_, h1, h5, outF]
 rcases zero_or (faultFree l ul c mode w at0) with y | y
 ·have z := orL_zero.1 y
  have hg : ∀ s ∈ l, GoodG s := faultG_good (z _ (by simp))
  have hgu : ∀ s ∈ ul, GoodU s := faultU_good (z _ (by simp))
  have hw : inB w 1 100000 = true := by
   have := z (outF w 1 100000 1) (by simp)
   cases hq : inB w 1 100000 with
   | true => rfl
   | false => simp [outF, hq] at this
  have hw := inB_is.1 hw
  have h2 : ∀ k : List G_Row → Option R, I_band_Nearest.band_free l ul c mode w at0 k = k (freeL l ul c mode w at0) := fun k => band_free_is (modes_of hf) hg hl hgu (by omega) c mode at0 hw.1 hw.2 R k
  have hp := permL_len c mode at0 l []
  have hlen : (freeL l ul c mode w at0).length ≤ 2000 := Nat.le_trans (shrL_len _ _) (rowsL_len2 (by simp at hp; omega) (by unfold usedBy; rw [List.length_map]; exact Nat.le_trans (List.length_filter_le _ _) (by omega)))
  have h3 : ∀ e0 : Int → Bool → Option R, band_Nearest_L9 I_band_Nearest I_band_Nearest.N 0 false ((freeL l ul c mode w at0).length : Int) 0 wish (freeL l ul c mode w at0) e0 = e0 (nearestL wish 0 false (freeL l ul c mode w at0)).1 (nearestL wish 0 false (freeL l ul c mode w at0)).2 := fun e0 =>
   band_Nearest_L9_is wish (freeL l ul c mode w at0) (by omega) (freeL l ul c mode w at0) NN 0 0 false rfl (by have := NN_ok; omega) R e0
  rw [y, h2, h3]
  cases inB wish 0 30000000000 <;> rfl
 ·rw [y.1]; rfl
end Go.Am
