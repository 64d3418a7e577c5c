/- The plain law, in Lean alone: R4, R5, R6. No condition: lemmas for the claim. -/
import Derived.Test.YtfifleplhegkdaaGreatDoorPlR3
set_option linter.unusedVariables false
set_option linter.unusedSectionVars false
set_option linter.unusedSimpArgs false
set_option maxRecDepth 100000
namespace Go.Am
open Go Go.Proofs
variable [Fuel]
def classL : List (List UInt8) := [[102, 117, 108, 108], [115, 109, 97, 108, 108], [110, 111, 110, 101], [], [65], [99]]
theorem clsI_ok : classL.all (fun s => (kit_IsKey s some).isSome) = true := by
 obtain ⟨m, h, rfl⟩ := fuel_is ‹Fuel›
 kernel_rfl
theorem kit_IsKey_cls {s : List UInt8} (h : s ∈ classL) (R : Type) (k : Bool → Option R) : kit_IsKey s k = k (keyB s) :=
 nat_bool ok_kit_IsKey.na (args := [.d (.str s)]) (F := @kit_IsKey _ s) (fun _ _ => rfl) (someBool_is (List.all_eq_true.1 clsI_ok s h)) R k
structure FineG (s : G_Segment) : Prop where
 cls : s.f_Class ∈ classL
 modes : s.f_Modes.length ≤ 1000
def cmpG (x y : G_Segment) : Int := orL [Lib.compareBytes x.f_Class y.f_Class, cmpI x.f_Low y.f_Low, cmpI x.f_High y.f_High, cmpI x.f_Time.f_From y.f_Time.f_From]
theorem band_compareSegments_is (x y : G_Segment) (R : Type) (k : Int → Option R) : band_compareSegments x y k = k (cmpG x y) := by
 simp only [band_compareSegments, band_compareSegments_, I_band_compareSegments, cmpG, cmp_Compare__int_is, strings_Compare_is]
 rw [cmp_Or__int_is _ (by simp)]
theorem slices_Compare_three (a b c d e f : Int) (R : Type) (k : Int → Option R) : slices_Compare__int [a, b, c] [d, e, f] k = k (orL [cmpI a d, cmpI b e, cmpI c f]) := by
 obtain ⟨m, eN, hm⟩ := NN_succ
 obtain ⟨m, rfl⟩ : ∃ q, m = q + 3 := ⟨m - 3, by omega⟩
 have w1 : w64 (0 + 1) = ((1 : Nat) : Int) := w64_eq (by omega) (by omega)
 have w2 : w64 (((1 : Nat) : Int) + 1) = ((2 : Nat) : Int) := by rw [w64_eq (by omega) (by omega)]; rfl
 have w3 : w64 (((2 : Nat) : Int) + 1) = ((3 : Nat) : Int) := by rw [w64_eq (by omega) (by omega)]; rfl
 have a0 : ∀ {R : Type} (x y z : Int) (k : Int → Option R), get_ [x, y, z] 0 k = k x := fun x y z k => get_nat (i := 0) rfl k
 have a1 : ∀ {R : Type} (x y z : Int) (k : Int → Option R), get_ [x, y, z] ((1 : Nat) : Int) k = k y := fun x y z k => get_nat (i := 1) rfl k
 have a2 : ∀ {R : Type} (x y z : Int) (k : Int → Option R), get_ [x, y, z] ((2 : Nat) : Int) k = k z := fun x y z k => get_nat (i := 2) rfl k
 have d0 : decide ((0 : Int) < ([a, b, c].length : Int)) = true := rfl
 have d1 : decide (((1 : Nat) : Int) < ([a, b, c].length : Int)) = true := rfl
 have d2 : decide (((2 : Nat) : Int) < ([a, b, c].length : Int)) = true := rfl
 have d3 : decide (((3 : Nat) : Int) < ([a, b, c].length : Int)) = false := rfl
 have f0 : decide ((0 : Int) ≥ ([d, e, f].length : Int)) = false := rfl
 have f1 : decide (((1 : Nat) : Int) ≥ ([d, e, f].length : Int)) = false := rfl
 have f2 : decide (((2 : Nat) : Int) ≥ ([d, e, f].length : Int)) = false := rfl
 have f3 : decide (([a, b, c].length : Int) < ([d, e, f].length : Int)) = false := rfl
 simp only [slices_Compare__int, slices_Compare__int_]
 rw [show I_slices_Compare__int.N = m + 3 + 1 from eN]
 simp only [slices_Compare__int_L2, d0, d1, d2, d3, f0, f1, f2, f3, w1, w2, w3, a0, a1, a2, I_slices_Compare__int, cond_true, cond_false, cmp_Compare__int_is, orL]
 cases h1 : cmpI a d != 0 with
 | true => simp only [cond_true]
 | false =>
  simp only [cond_false]
  cases h2 : cmpI b e != 0 with
  | true => simp only [cond_true]
  | false =>
   simp only [cond_false]
   cases h3 : cmpI c f != 0 with
   | true => simp only [cond_true]
   | false => simp only [cond_false]
theorem Stream_Segments_1_is (x y : G_Segment) (R : Type) (k : Int → Option R) : Stream_Segments_1 x y k = k (cmpG x y) := by
 simp only [Stream_Segments_1, Stream_Segments_1_, I_Stream_Segments_1, slices_Compare_three, bytesLess_is, cmpG, ne_cb x.f_Class y.f_Class]
 rw [show orL [Lib.compareBytes x.f_Class y.f_Class, cmpI x.f_Low y.f_Low, cmpI x.f_High y.f_High, cmpI x.f_Time.f_From y.f_Time.f_From] = bif Lib.compareBytes x.f_Class y.f_Class != 0 then Lib.compareBytes x.f_Class y.f_Class else orL [cmpI x.f_Low y.f_Low, cmpI x.f_High y.f_High, cmpI x.f_Time.f_From y.f_Time.f_From] from rfl]
 rcases cb_cases x.f_Class y.f_Class with h | h | h <;> rw [h] <;> rfl
def modeFs : Option Int → List Int → Int
 | _, [] => 0
 | p, m :: ms => bif !inB m 1 3 then 4 else match p with
  | none => modeFs (some m) ms
  | some q => bif decide (m ≤ q) then 7 else modeFs (some m) ms
def modeF (l : List Int) : Int := bif (l.length : Int) == 0 then 8 else modeFs none l
theorem band_modesFault_loop (d : List Int) (hl : d.length ≤ 100000) : ∀ (xs : List Int) (n i : Nat) (p : Option Int), d.drop i = xs → PrevAt d i p → xs.length < n → ∀ (R : Type) (k : Int → Option R),
  band_modesFault_L4 I_band_modesFault n d d (d.length : Int) (i : Int) k (k 0) = k (modeFs p xs)
 | _, 0, _, _, _, _, h, _, _ => by omega
 | [], n + 1, i, p, h, _, _, _, _ => by rw [band_modesFault_L4, ge_drop h]; rfl
 | c :: cs, n + 1, i, p, h, hp, hn, R, k => by
  have h' := drop_cons h
  have ih := band_modesFault_loop d hl cs n (i + 1) (some c) h'.2.2.1 (prevAt_next h) (by simp at hn; omega) R k
  rw [band_modesFault_L4, lt_drop h]
  simp only [I_band_modesFault] at ih
  simp only [cond_true, get_drop h, I_band_modesFault, kit_IsMode_is, modeFs, w64_succ (show i < 4611686018427387904 by omega), ih]
  cases inB c 1 3 <;> try rfl
  cases p with
  | none => rw [decide_eq_false (show ¬ ((i : Int) > 0) by unfold PrevAt at hp; omega)]; rfl
  | some q =>
   obtain ⟨h0, ys, hq⟩ := hp
   rw [decide_eq_true (show ((i : Int) > 0) by omega), prev_drop hq h0 (by omega)]
   simp only [Bool.not_true, cond_false, cond_true]
   cases decide (c ≤ q) <;> rfl
theorem band_modesFault_is {d : List Int} (hl : d.length ≤ 100000) (R : Type) (k : Int → Option R) : band_modesFault d k = k (modeF d) := by
 have h : band_modesFault_L4 I_band_modesFault I_band_modesFault.N d d (d.length : Int) 0 k (k 0) = k (modeFs none d) := band_modesFault_loop d hl d NN 0 none rfl rfl (by have := NN_ok; omega) R k
 simp only [band_modesFault, band_modesFault_, modeF, h]
 cases (d.length : Int) == 0 <;> rfl
def timeB (w : G_Window) : Bool := decide (w.f_From ≥ 0) && (decide (w.f_From < w.f_To) && decide (w.f_To ≤ 345686400000))
theorem kit_IsTime_is (w : G_Window) (R : Type) (k : Bool → Option R) : kit_IsTime w k = k (timeB w) := by
 simp only [kit_IsTime, kit_IsTime_, timeB]
 cases decide (w.f_From ≥ 0) <;> cases decide (w.f_From < w.f_To) <;> rfl
noncomputable def chkG (s : G_Segment) : Int := bif !keyB s.f_Class then 5 else bif decide (s.f_Low < 0) then 1 else bif decide (s.f_Low ≥ s.f_High) then 1 else bif decide (s.f_High > 30000000000) then 1 else bif modeF s.f_Modes != 0 then modeF s.f_Modes else bif !timeB s.f_Time then 1 else 0
noncomputable def faultGs : Option G_Segment → List G_Segment → Int
 | _, [] => 0
 | p, c :: cs => bif chkG c != 0 then chkG c else match p with
  | none => faultGs (some c) cs
  | some q => bif decide (cmpG q c ≥ 0) then 7 else faultGs (some c) cs
theorem chkG_good {s : G_Segment} (h : chkG s = 0) : GoodG s := by
 unfold chkG at h
 by_cases h1 : s.f_Low < 0
 ·rw [decide_eq_true h1] at h; revert h; cases keyB s.f_Class <;> simp
 ·by_cases h2 : s.f_Low ≥ s.f_High
  ·rw [decide_eq_false h1, decide_eq_true h2] at h; revert h; cases keyB s.f_Class <;> simp
  ·by_cases h3 : s.f_High > 30000000000
   ·rw [decide_eq_false h1, decide_eq_false h2, decide_eq_true h3] at h; revert h; cases keyB s.f_Class <;> simp
   ·exact ⟨by omega, by omega, by omega⟩
theorem faultGs_good : ∀ (l : List G_Segment) (p : Option G_Segment), faultGs p l = 0 → ∀ c ∈ l, GoodG c
 | [], _, _, c, h => by cases h
 | x :: xs, p, h, c, hc => by
  unfold faultGs at h
  cases hq : chkG x != 0 with
  | true => rw [hq] at h; simp only [cond_true] at h; rw [h] at hq; cases hq
  | false =>
   rw [hq] at h
   simp only [cond_false] at h
   have h0 : chkG x = 0 := by simpa using hq
   have h2 : faultGs (some x) xs = 0 := by
    cases p with
    | none => exact h
    | some q =>
     simp only at h
     cases hd : decide (cmpG q x ≥ 0) with
     | true => rw [hd] at h; simp only [cond_true] at h; omega
     | false => rw [hd] at h; exact h
   rcases List.mem_cons.1 hc with rfl | hc
   ·exact chkG_good h0
   ·exact faultGs_good xs (some x) h2 c hc
noncomputable def faultG (d : List G_Segment) : Int := bif decide ((d.length : Int) > 500) then 2 else faultGs none d
theorem faultG_good {l : List G_Segment} (h : faultG l = 0) : ∀ c ∈ l, GoodG c := by
 unfold faultG at h
 cases hd : decide ((l.length : Int) > 500) with
 | true => rw [hd] at h; simp only [cond_true] at h; omega
 | false => rw [hd] at h; exact faultGs_good l none h
theorem band_CheckSegments_loop (d : List G_Segment) (hf : ∀ c ∈ d, FineG c) (hl : d.length ≤ 100000) : ∀ (xs : List G_Segment) (n i : Nat) (p : Option G_Segment), d.drop i = xs → PrevAt d i p → xs.length < n → ∀ (R : Type) (k : Int → Option R),
  band_CheckSegments_L4 I_band_CheckSegments n d d (d.length : Int) (i : Int) k (k 0) = k (faultGs p xs)
 | _, 0, _, _, _, _, h, _, _ => by omega
 | [], n + 1, i, p, h, _, _, _, _ => by rw [band_CheckSegments_L4, ge_drop h]; rfl
 | c :: cs, n + 1, i, p, h, hp, hn, R, k => by
  have h' := drop_cons h
  have ih := band_CheckSegments_loop d hf hl cs n (i + 1) (some c) h'.2.2.1 (prevAt_next h) (by simp at hn; omega) R k
  have hc := hf c (mem_drop h)
  rw [band_CheckSegments_L4, lt_drop h]
  simp only [I_band_CheckSegments] at ih
  simp only [cond_true, get_drop h, I_band_CheckSegments, kit_IsKey_cls hc.cls, band_modesFault_is (show c.f_Modes.length ≤ 100000 by have := hc.modes; omega), kit_IsTime_is, band_compareSegments_is, faultGs, chkG, w64_succ (show i < 4611686018427387904 by omega), ih]
  cases keyB c.f_Class <;> cases decide (c.f_Low < 0) <;> cases decide (c.f_Low ≥ c.f_High) <;> cases decide (c.f_High > 30000000000) <;> try rfl
  cases hm : modeF c.f_Modes != 0 with
  | true => simp only [Bool.not_true, cond_false, cond_true, hm]
  | false =>
   cases timeB c.f_Time <;> try rfl
   cases p with
   | none => rw [decide_eq_false (show ¬ ((i : Int) > 0) by unfold PrevAt at hp; omega)]; rfl
   | some q =>
    obtain ⟨h0, ys, hq⟩ := hp
    rw [decide_eq_true (show ((i : Int) > 0) by omega), prev_drop hq h0 (by omega)]
    simp only [Bool.not_true, cond_false, cond_true, bne_self_eq_false]
    cases decide (cmpG q c ≥ 0) <;> rfl
theorem band_CheckSegments_is {d : List G_Segment} (hf : ∀ c ∈ d, FineG c) (hl : d.length ≤ 100000) (R : Type) (k : Int → Option R) : band_CheckSegments d k = k (faultG d) := by
 have h : band_CheckSegments_L4 I_band_CheckSegments I_band_CheckSegments.N d d (d.length : Int) 0 k (k 0) = k (faultGs none d) := band_CheckSegments_loop d hf hl d NN 0 none rfl rfl (by have := NN_ok; omega) R k
 simp only [band_CheckSegments, band_CheckSegments_, faultG, h]
 cases decide ((d.length : Int) > 500) <;> rfl
end Go.Am
set_option linter.unusedVariables false
set_option linter.unusedSectionVars false
set_option linter.unusedSimpArgs false
set_option maxRecDepth 100000
namespace Go.Am
open Go Go.Proofs
variable [Fuel]
theorem Stream_Segments_modes : ∀ (j n : Nat) (m : Int) (b : Int) (s : G_Stream) (ms : List Int), m + (j : Int) = 4 → 1 ≤ m → j < n → SOk b s → b + (j : Int) ≤ 1000000 → ms.length + j ≤ 10 →
  ∃ (ms' : List Int) (s' : G_Stream), SOk (b + (j : Int)) s' ∧ ms'.length ≤ ms.length + j ∧ ∀ (R : Type) (v90 : List UInt8) (v92 v93 : Int) (v95 : List (List UInt8)) (v96 : List G_Segment) (v97 : List UInt8) (v98 v99 v100 v101 : Int) (e0 : List UInt8 → Int → Int → G_Stream → List (List UInt8) → List G_Segment → List UInt8 → Int → Int → Int → Int → List Int → Option R),
   Stream_Segments_L10 I_Stream_Segments n v90 m v92 v93 s v95 v96 v97 v98 v99 v100 v101 ms e0 = e0 v90 v92 v93 s' v95 v96 v97 v98 v99 v100 v101 ms'
 | _, 0, _, _, _, _, _, _, h, _, _, _ => by omega
 | 0, n + 1, m, b, s, ms, hm, h1, _, hs, hb, _ => ⟨ms, s, hs.mono (by omega), by omega, fun R v90 v92 v93 v95 v96 v97 v98 v99 v100 v101 e0 => by rw [Stream_Segments_L10, decide_eq_false (by omega)]; rfl⟩
 | j + 1, n + 1, m, b, s, ms, hm, h1, hn, hs, hb, hl => by
  obtain ⟨f, s1, z1, e1⟩ := Stream_Flip_gives hs 2 (by omega) (by omega)
  have hw : w64 (m + 1) = m + 1 := w64_eq (by omega) (by omega)
  cases f with
  | false =>
   obtain ⟨ms', s', g1, g2, g3⟩ := Stream_Segments_modes j n (m + 1) (b + 1) s1 ms (by omega) (by omega) (by omega) (z1.mono (by omega)) (by omega) (by omega)
   refine ⟨ms', s', g1.mono (by omega), by omega, fun R v90 v92 v93 v95 v96 v97 v98 v99 v100 v101 e0 => ?_⟩
   rw [Stream_Segments_L10, decide_eq_true (by omega)]
   simp only [I_Stream_Segments] at g3
   simp only [I_Stream_Segments, cond_true, e1, cond_false, hw, g3]
  | true =>
   obtain ⟨ms', s', g1, g2, g3⟩ := Stream_Segments_modes j n (m + 1) (b + 1) s1 (ms ++ [m]) (by omega) (by omega) (by omega) (z1.mono (by omega)) (by omega) (by simp; omega)
   refine ⟨ms', s', g1.mono (by omega), by simp at g2; omega, fun R v90 v92 v93 v95 v96 v97 v98 v99 v100 v101 e0 => ?_⟩
   rw [Stream_Segments_L10, decide_eq_true (by omega)]
   simp only [I_Stream_Segments] at g3
   simp only [I_Stream_Segments, cond_true, e1, hw, room1 ms m 8 (show ms.length ≤ 1000000 by omega) (by omega), g3]
def clsL : List (List UInt8) := [[102, 117, 108, 108], [102, 117, 108, 108], [102, 117, 108, 108], [115, 109, 97, 108, 108]]
theorem Stream_Segments_round (n i : Nat) (c : List UInt8) (hi : clsL[i]? = some c) (hc : c ∈ classL) (b : Int) (s : G_Stream) (out : List G_Segment) (hs : SOk b s) (hb : b ≤ 900000) (hf : ∀ x ∈ out, FineG x) (hl : out.length ≤ 10) :
  ∃ (out' : List G_Segment) (s' : G_Stream), SOk (b + 40) s' ∧ out'.length ≤ out.length + 1 ∧ (∀ x ∈ out', FineG x) ∧ ∀ (R : Type) (e0 : G_Stream → List G_Segment → Option R), Stream_Segments_L3 I_Stream_Segments (n + 1) (4 : Int) (i : Int) s clsL out e0 = Stream_Segments_L3 I_Stream_Segments n (4 : Int) ((i + 1 : Nat) : Int) s' clsL out' e0 := by
 have hi4 : i < 4 := by
  rcases Nat.lt_or_ge i 4 with h | h
  ·exact h
  ·rw [List.getElem?_eq_none (by simpa [clsL] using h)] at hi; cases hi
 have w1 : w64 ((i : Int) + 1) = ((i + 1 : Nat) : Int) := w64_succ (by omega)
 have hin : ∀ {R : Type} (k : Option R), inr clsL (i : Int) k = k := fun k => inr_nat (by simpa [clsL] using hi4) k
 have hat : ∀ {R : Type} (k : List UInt8 → Option R), at_ clsL (i : Int) k = k c := fun k => at_nat hi k
 have rm : ∀ x : G_Segment, decide ((out.length + [x].length) * 72 ≤ roomBytes') = true := fun x => room1 out x 72 (by omega) (by omega)
 obtain ⟨f, s1, z1, e1⟩ := Stream_Flip_gives hs 5 (by omega) (by omega)
 cases f with
 | true =>
  refine ⟨out, s1, z1.mono (by omega), by omega, hf, fun R e0 => ?_⟩
  rw [Stream_Segments_L3, decide_eq_true (by omega)]
  simp only [I_Stream_Segments, cond_true, hin, hat, e1, w1]
 | false =>
  obtain ⟨lo, s2, _, z2, e2⟩ := Stream_Pick_gives z1 [0, 100, 150, 200] (by omega) (by simp) (by simp)
  obtain ⟨fr, s3, _, z3, e3⟩ := Stream_Pick_gives z2 [0, 0, 50] (by omega) (by simp) (by simp)
  obtain ⟨hi, s4, _, z4, e4⟩ := Stream_Pick_gives z3 [20, 50, 100] (by omega) (by simp) (by simp)
  obtain ⟨to, s5, _, z5, e5⟩ := Stream_Pick_gives z4 [50, 1000] (by omega) (by simp) (by simp)
  obtain ⟨ms, s6, z6, hms, e6⟩ := Stream_Segments_modes 3 NN 1 (b + 1 + 1 + 1 + 1 + 1) s5 [] (by omega) (by omega) (by have := NN_ok; omega) z5 (by omega) (by simp)
  have hms' : ms.length ≤ 3 := by simpa using hms
  have e6' : ∀ (R : Type) (v90 : List UInt8) (v92 v93 : Int) (v95 : List (List UInt8)) (v96 : List G_Segment) (v97 : List UInt8) (v98 v99 v100 v101 : Int) (e0 : List UInt8 → Int → Int → G_Stream → List (List UInt8) → List G_Segment → List UInt8 → Int → Int → Int → Int → List Int → Option R),
   Stream_Segments_L10 I_Stream_Segments I_Stream_Segments.N v90 1 v92 v93 s5 v95 v96 v97 v98 v99 v100 v101 [] e0 = e0 v90 v92 v93 s6 v95 v96 v97 v98 v99 v100 v101 ms := e6
  simp only [I_Stream_Segments] at e6'
  have hstart : ∀ (R : Type) (e0 : G_Stream → List G_Segment → Option R), Stream_Segments_L3 I_Stream_Segments (n + 1) (4 : Int) (i : Int) s clsL out e0 = Stream_Segments_L3 I_Stream_Segments (n + 1) (4 : Int) (i : Int) s clsL out e0 := fun R e0 => rfl
  cases ms with
  | nil =>
   obtain ⟨f2, s7, z7, e7⟩ := Stream_Flip_gives z6 50 (by omega) (by omega)
   cases f2 with
   | false =>
    refine ⟨out ++ [⟨c, lo, w64 (lo + hi), [1], ⟨fr, w64 (fr + to)⟩⟩], s7, z7.mono (by omega), by simp, fun x hx => ?_, fun R e0 => ?_⟩
    ·rcases List.mem_append.1 hx with hx | hx
     ·exact hf x hx
     ·simp at hx; rw [hx]; exact ⟨hc, by show ([1] : List Int).length ≤ 1000; simp⟩
    ·rw [hstart]; simp only [Stream_Segments_L3, I_Stream_Segments, decide_eq_true (show (i : Int) < 4 by omega), hin, hat, e1, e2, e3, e4, e5, e6', w1, show ((([] : List Int).length : Int) == 0) = true from rfl, cond_true, cond_false, e7, rm]
   | true =>
    obtain ⟨r, s8, r1, r2, z8, e8⟩ := Stream_Next_gives z7 4 (by omega) (by omega)
    have r3 := r2 (by omega)
    by_cases h0 : r = 0
    ·obtain ⟨cl, s9, hcl, z9, e9⟩ := Stream_Some_gives z8 [c, [], [65]] (by omega) (by simp) (by simp)
     obtain ⟨x1, t1, x11, x12, y1, f1⟩ := Stream_Odd_gives z9 0 300 (by omega) (by omega) (by omega) (by omega) (by omega)
     refine ⟨out ++ [⟨cl, x1, w64 (lo + hi), [1], ⟨fr, w64 (fr + to)⟩⟩], t1, y1.mono (by omega), by simp, fun x hx => ?_, fun R e0 => ?_⟩
     ·rcases List.mem_append.1 hx with hx | hx
      ·exact hf x hx
      ·simp at hx; rw [hx]
       refine ⟨?_, by show ([1] : List Int).length ≤ 1000; simp⟩
       simp only [List.mem_cons, List.not_mem_nil, or_false] at hcl
       rcases hcl with rfl | rfl | rfl
       ·exact hc
       ·simp [classL]
       ·simp [classL]
     ·rw [hstart]; simp only [Stream_Segments_L3, I_Stream_Segments, decide_eq_true (show (i : Int) < 4 by omega), hin, hat, e1, e2, e3, e4, e5, e6', w1, show ((([] : List Int).length : Int) == 0) = true from rfl, cond_true, cond_false, e7, e8, h0, beq_self_eq_true, e9, f1, rm]
    ·by_cases h1 : r = 1
     ·obtain ⟨x1, t1, x11, x12, y1, f1⟩ := Stream_Odd_gives z8 1 30000000000 (by omega) (by omega) (by omega) (by omega) (by omega)
      refine ⟨out ++ [⟨c, lo, x1, [1], ⟨fr, w64 (fr + to)⟩⟩], t1, y1.mono (by omega), by simp, fun x hx => ?_, fun R e0 => ?_⟩
      ·rcases List.mem_append.1 hx with hx | hx
       ·exact hf x hx
       ·simp at hx; rw [hx]; exact ⟨hc, by show ([1] : List Int).length ≤ 1000; simp⟩
      ·rw [hstart]; simp only [Stream_Segments_L3, I_Stream_Segments, decide_eq_true (show (i : Int) < 4 by omega), hin, hat, e1, e2, e3, e4, e5, e6', w1, show ((([] : List Int).length : Int) == 0) = true from rfl, cond_true, cond_false, e7, e8, h1, show ((1 : Int) == 0) = false from rfl, beq_self_eq_true, f1, rm]
     ·by_cases h2 : r = 2
      ·obtain ⟨md, s9, hmd, z9, e9⟩ := Stream_Pick_gives z8 [0, 1, 3, 4] (by omega) (by simp) (by simp)
       have rms : decide ((([1] : List Int).length + [md].length) * 8 ≤ roomBytes') = true := room1 _ md 8 (by show ([1] : List Int).length ≤ 1000000; simp) (by omega)
       refine ⟨out ++ [⟨c, lo, w64 (lo + hi), [1] ++ [md], ⟨fr, w64 (fr + to)⟩⟩], s9, z9.mono (by omega), by simp, fun x hx => ?_, fun R e0 => ?_⟩
       ·rcases List.mem_append.1 hx with hx | hx
        ·exact hf x hx
        ·simp at hx; rw [hx]; exact ⟨hc, by show (([1] : List Int) ++ [md]).length ≤ 1000; simp⟩
       ·rw [hstart]; simp only [Stream_Segments_L3, I_Stream_Segments, decide_eq_true (show (i : Int) < 4 by omega), hin, hat, e1, e2, e3, e4, e5, e6', w1, show ((([] : List Int).length : Int) == 0) = true from rfl, cond_true, cond_false, e7, e8, h2, show ((2 : Int) == 0) = false from rfl, show ((2 : Int) == 1) = false from rfl, beq_self_eq_true, e9, rm]
        exact congrArg (fun b : Bool => bif b then _ else none) rms
      ·obtain ⟨x1, t1, x11, x12, y1, f1⟩ := Stream_Odd_gives z8 0 100 (by omega) (by omega) (by omega) (by omega) (by omega)
       obtain ⟨x2, t2, x21, x22, y2, f2⟩ := Stream_Odd_gives y1 1 345686400000 (by omega) (by omega) (by omega) (by omega) (by omega)
       refine ⟨out ++ [⟨c, lo, w64 (lo + hi), [1], ⟨x1, x2⟩⟩], t2, y2.mono (by omega), by simp, fun x hx => ?_, fun R e0 => ?_⟩
       ·rcases List.mem_append.1 hx with hx | hx
        ·exact hf x hx
        ·simp at hx; rw [hx]; exact ⟨hc, by show ([1] : List Int).length ≤ 1000; simp⟩
       ·rw [hstart]; simp only [Stream_Segments_L3, I_Stream_Segments, decide_eq_true (show (i : Int) < 4 by omega), hin, hat, e1, e2, e3, e4, e5, e6', w1, show ((([] : List Int).length : Int) == 0) = true from rfl, cond_true, cond_false, e7, e8, show (r == 0) = false by simp [h0], show (r == 1) = false by simp [h1], show (r == 2) = false by simp [h2], f1, f2, rm]
  | cons m0 mt =>
   obtain ⟨f2, s7, z7, e7⟩ := Stream_Flip_gives z6 50 (by omega) (by omega)
   cases f2 with
   | false =>
    refine ⟨out ++ [⟨c, lo, w64 (lo + hi), (m0 :: mt), ⟨fr, w64 (fr + to)⟩⟩], s7, z7.mono (by omega), by simp, fun x hx => ?_, fun R e0 => ?_⟩
    ·rcases List.mem_append.1 hx with hx | hx
     ·exact hf x hx
     ·simp at hx; rw [hx]; exact ⟨hc, by show (m0 :: mt).length ≤ 1000; omega⟩
    ·rw [hstart]; simp only [Stream_Segments_L3, I_Stream_Segments, decide_eq_true (show (i : Int) < 4 by omega), hin, hat, e1, e2, e3, e4, e5, e6', w1, show (((m0 :: mt).length : Int) == 0) = false by simp <;> omega, cond_true, cond_false, e7, rm]
   | true =>
    obtain ⟨r, s8, r1, r2, z8, e8⟩ := Stream_Next_gives z7 4 (by omega) (by omega)
    have r3 := r2 (by omega)
    by_cases h0 : r = 0
    ·obtain ⟨cl, s9, hcl, z9, e9⟩ := Stream_Some_gives z8 [c, [], [65]] (by omega) (by simp) (by simp)
     obtain ⟨x1, t1, x11, x12, y1, f1⟩ := Stream_Odd_gives z9 0 300 (by omega) (by omega) (by omega) (by omega) (by omega)
     refine ⟨out ++ [⟨cl, x1, w64 (lo + hi), (m0 :: mt), ⟨fr, w64 (fr + to)⟩⟩], t1, y1.mono (by omega), by simp, fun x hx => ?_, fun R e0 => ?_⟩
     ·rcases List.mem_append.1 hx with hx | hx
      ·exact hf x hx
      ·simp at hx; rw [hx]
       refine ⟨?_, by show (m0 :: mt).length ≤ 1000; omega⟩
       simp only [List.mem_cons, List.not_mem_nil, or_false] at hcl
       rcases hcl with rfl | rfl | rfl
       ·exact hc
       ·simp [classL]
       ·simp [classL]
     ·rw [hstart]; simp only [Stream_Segments_L3, I_Stream_Segments, decide_eq_true (show (i : Int) < 4 by omega), hin, hat, e1, e2, e3, e4, e5, e6', w1, show (((m0 :: mt).length : Int) == 0) = false by simp <;> omega, cond_true, cond_false, e7, e8, h0, beq_self_eq_true, e9, f1, rm]
    ·by_cases h1 : r = 1
     ·obtain ⟨x1, t1, x11, x12, y1, f1⟩ := Stream_Odd_gives z8 1 30000000000 (by omega) (by omega) (by omega) (by omega) (by omega)
      refine ⟨out ++ [⟨c, lo, x1, (m0 :: mt), ⟨fr, w64 (fr + to)⟩⟩], t1, y1.mono (by omega), by simp, fun x hx => ?_, fun R e0 => ?_⟩
      ·rcases List.mem_append.1 hx with hx | hx
       ·exact hf x hx
       ·simp at hx; rw [hx]; exact ⟨hc, by show (m0 :: mt).length ≤ 1000; omega⟩
      ·rw [hstart]; simp only [Stream_Segments_L3, I_Stream_Segments, decide_eq_true (show (i : Int) < 4 by omega), hin, hat, e1, e2, e3, e4, e5, e6', w1, show (((m0 :: mt).length : Int) == 0) = false by simp <;> omega, cond_true, cond_false, e7, e8, h1, show ((1 : Int) == 0) = false from rfl, beq_self_eq_true, f1, rm]
     ·by_cases h2 : r = 2
      ·obtain ⟨md, s9, hmd, z9, e9⟩ := Stream_Pick_gives z8 [0, 1, 3, 4] (by omega) (by simp) (by simp)
       have rms : decide ((((m0 :: mt) : List Int).length + [md].length) * 8 ≤ roomBytes') = true := room1 _ md 8 (by show (m0 :: mt).length ≤ 1000000; omega) (by omega)
       refine ⟨out ++ [⟨c, lo, w64 (lo + hi), (m0 :: mt) ++ [md], ⟨fr, w64 (fr + to)⟩⟩], s9, z9.mono (by omega), by simp, fun x hx => ?_, fun R e0 => ?_⟩
       ·rcases List.mem_append.1 hx with hx | hx
        ·exact hf x hx
        ·simp at hx; rw [hx]; exact ⟨hc, by show ((m0 :: mt) ++ [md]).length ≤ 1000; simp only [List.length_append, List.length_singleton]; omega⟩
       ·rw [hstart]; simp only [Stream_Segments_L3, I_Stream_Segments, decide_eq_true (show (i : Int) < 4 by omega), hin, hat, e1, e2, e3, e4, e5, e6', w1, show (((m0 :: mt).length : Int) == 0) = false by simp <;> omega, cond_true, cond_false, e7, e8, h2, show ((2 : Int) == 0) = false from rfl, show ((2 : Int) == 1) = false from rfl, beq_self_eq_true, e9, rms, rm]
      ·obtain ⟨x1, t1, x11, x12, y1, f1⟩ := Stream_Odd_gives z8 0 100 (by omega) (by omega) (by omega) (by omega) (by omega)
       obtain ⟨x2, t2, x21, x22, y2, f2⟩ := Stream_Odd_gives y1 1 345686400000 (by omega) (by omega) (by omega) (by omega) (by omega)
       refine ⟨out ++ [⟨c, lo, w64 (lo + hi), (m0 :: mt), ⟨x1, x2⟩⟩], t2, y2.mono (by omega), by simp, fun x hx => ?_, fun R e0 => ?_⟩
       ·rcases List.mem_append.1 hx with hx | hx
        ·exact hf x hx
        ·simp at hx; rw [hx]; exact ⟨hc, by show (m0 :: mt).length ≤ 1000; omega⟩
       ·rw [hstart]; simp only [Stream_Segments_L3, I_Stream_Segments, decide_eq_true (show (i : Int) < 4 by omega), hin, hat, e1, e2, e3, e4, e5, e6', w1, show (((m0 :: mt).length : Int) == 0) = false by simp <;> omega, cond_true, cond_false, e7, e8, show (r == 0) = false by simp [h0], show (r == 1) = false by simp [h1], show (r == 2) = false by simp [h2], f1, f2, rm]
theorem Stream_Segments_1_loop (n : Nat) (b : Int) (s : G_Stream) (hs : SOk b s) (hb : b ≤ 100000) (hn : 10 ≤ n) :
  ∃ (out' : List G_Segment) (s' : G_Stream), SOk (b + 160) s' ∧ out'.length ≤ 4 ∧ (∀ x ∈ out', FineG x) ∧ ∀ (R : Type) (e0 : G_Stream → List G_Segment → Option R), Stream_Segments_L3 I_Stream_Segments n (4 : Int) 0 s clsL [] e0 = e0 s' out' := by
 obtain ⟨n, rfl⟩ : ∃ q, n = q + 1 + 1 + 1 + 1 + 1 := ⟨n - 5, by omega⟩
 obtain ⟨o1, s1, z1, l1, f1, e1⟩ := Stream_Segments_round (n + 1 + 1 + 1 + 1) 0 _ rfl (by simp [classL]) b s [] hs (by omega) (fun x h => by cases h) (by simp)
 obtain ⟨o2, s2, z2, l2, f2, e2⟩ := Stream_Segments_round (n + 1 + 1 + 1) 1 _ rfl (by simp [classL]) _ s1 o1 z1 (by omega) f1 (by simp at l1; omega)
 obtain ⟨o3, s3, z3, l3, f3, e3⟩ := Stream_Segments_round (n + 1 + 1) 2 _ rfl (by simp [classL]) _ s2 o2 z2 (by omega) f2 (by simp at l1; omega)
 obtain ⟨o4, s4, z4, l4, f4, e4⟩ := Stream_Segments_round (n + 1) 3 _ rfl (by simp [classL]) _ s3 o3 z3 (by omega) f3 (by simp at l1; omega)
 refine ⟨o4, s4, z4.mono (by omega), by simp at l1; omega, f4, fun R e0 => ?_⟩
 have e1' : ∀ e0 : G_Stream → List G_Segment → Option R, Stream_Segments_L3 I_Stream_Segments (n + 1 + 1 + 1 + 1 + 1) (4 : Int) 0 s clsL [] e0 = _ := fun e0 => e1 R e0
 rw [e1', e2, e3, e4, Stream_Segments_L3]
 rfl
theorem Stream_Segments_gives {b : Int} {s : G_Stream} (hs : SOk b s) (hb : b ≤ 100000) :
  ∃ (r : List G_Segment) (s' : G_Stream), SOk (b + 160) s' ∧ r.length ≤ 4 ∧ (∀ c ∈ r, FineG c) ∧ ∀ (R : Type) (k : List G_Segment → G_Stream → Option R), Stream_Segments s k = k r s' := by
 obtain ⟨r, s', g1, g2, g3, g4⟩ := Stream_Segments_1_loop NN b s hs hb (by have := NN_ok; omega)
 have g4' : ∀ (R : Type) (e0 : G_Stream → List G_Segment → Option R), Stream_Segments_L3 I_Stream_Segments I_Stream_Segments.N (([[102, 117, 108, 108], [102, 117, 108, 108], [102, 117, 108, 108], [115, 109, 97, 108, 108]] : List (List UInt8)).length : Int) 0 s [[102, 117, 108, 108], [102, 117, 108, 108], [102, 117, 108, 108], [115, 109, 97, 108, 108]] [] e0 = e0 s' r := g4
 refine ⟨sortI cmpG r, s', g1, by rw [sortI_length]; exact g2, fun c h => g3 c (sortI_mem.1 h), fun R k => ?_⟩
 have hsort : ∀ k : List G_Segment → Option R, slices_SortStableFunc__Segment_Stream_Segments_1 r k = k (sortI cmpG r) := fun k => by
  simp only [slices_SortStableFunc__Segment_Stream_Segments_1, slices_SortStableFunc__Segment_Stream_Segments_1_, I_slices_SortStableFunc__Segment_Stream_Segments_1, li_slices_stableCmpFunc__Segment_Stream_Segments_1]
  exact sSta_is cmpG (fun _ => True) (fun x y _ _ => Stream_Segments_1_is x y) r (fun _ _ => trivial) (by omega) (by have := NN_ok; omega) (by have := NN_ok; omega) _ (fun l a b R k => by rw [li_slices_insertionSortCmpFunc__Segment_Stream_Segments_1]) k
 refine Eq.trans (g4' R (fun e151 e152 => slices_SortStableFunc__Segment_Stream_Segments_1 e152 fun r153 => k r153 e151)) (hsort _)
end Go.Am
set_option linter.unusedVariables false
set_option linter.unusedSectionVars false
set_option linter.unusedSimpArgs false
set_option maxRecDepth 100000
namespace Go.Am
open Go Go.Proofs
variable [Fuel]
noncomputable def nameF (c : List UInt8) : Int := bif !keyB c then 5 else 0
def outF (x lo hi e : Int) : Int := bif !inB x lo hi then e else 0
def momF (x : Int) : Int := bif momB x then 0 else 1
noncomputable def faultN (l : List G_Segment) (c : List UInt8) : Int := orL [faultG l, nameF c]
noncomputable def faultMay (l : List G_Segment) (c : List UInt8) (hertz width mode at0 : Int) : Int := orL [faultN l c, outF hertz 0 30000000000 1, outF width 1 100000 1, outF mode 1 3 4, momF at0]
noncomputable def mayR (l : List G_Segment) (c : List UInt8) (hertz width mode at0 : Int) : Bool := (rowsL (permL c mode at0 [] l) []).any fun r => decide (r.f_From ≤ (usedR hertz width).f_From) && decide ((usedR hertz width).f_To ≤ r.f_To)
theorem modes_of {l : List G_Segment} (hf : ∀ c ∈ l, FineG c) : ∀ s ∈ l, s.f_Modes.length ≤ 1000 := fun s h => (hf s h).modes
theorem band_May_is {l : List G_Segment} (hf : ∀ c ∈ l, FineG c) (hl : l.length ≤ 400) {c : List UInt8} (hc : c ∈ classL) (hertz width mode at0 : Int) (R : Type) (k : Bool → Int → Option R) :
  band_May l c hertz width mode at0 k = bif faultMay l c hertz width mode at0 != 0 then k false (faultMay l c hertz width mode at0) else k (mayR l c hertz width mode at0) 0 := by
 have hu : ∀ k : G_Row → Option R, band_used hertz width k = k (usedR hertz width) := fun k => rfl
 simp only [band_May, band_May_, I_band_May, band_CheckSegments_is hf (show l.length ≤ 100000 by omega), kit_IsKey_cls hc, kit_Outside_is, kit_IsMode_is, kit_IsMoment_is, hu, faultMay, faultN, nameF, outF, momF, orL]
 cases h1 : faultG l != 0 with
 | true => simp only [cond_true, h1]
 | false =>
  have hz : faultG l = 0 := by simpa using h1
  obtain ⟨p1, p2⟩ := band_permitted_is (modes_of hf) (faultG_good hz) (show l.length ≤ 500 by omega) c mode at0
  simp only [cond_false, p2, con_may (show (rowsL (permL c mode at0 [] l) []).length ≤ 100000 by omega)]
  cases keyB c <;> cases inB hertz 0 30000000000 <;> cases inB width 1 100000 <;> cases inB mode 1 3 <;> cases momB at0 <;> rfl
end Go.Am
