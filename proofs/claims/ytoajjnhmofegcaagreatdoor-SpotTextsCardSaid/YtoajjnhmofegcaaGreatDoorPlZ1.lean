/- The plain law, in Lean alone: Z1, Z2, Z3, Z6. No condition: lemmas for the claim. -/
import Derived.Test.YtoajjnhmofegcaaGreatDoorPlS1
import Derived.Test.YtoajjnhmofegcaaGreatDoorPlB1
import Derived.Test.YtoajjnhmofegcaaGreatDoorPlK
set_option linter.unusedVariables false
set_option linter.unusedSectionVars false
set_option linter.unusedSimpArgs false
set_option maxRecDepth 100000
namespace Go.Am
open Go Go.Proofs
variable [Fuel]
end Go.Am
set_option linter.unusedVariables false
set_option linter.unusedSectionVars false
set_option linter.unusedSimpArgs false
set_option maxRecDepth 100000
namespace Go.Am
open Go Go.Proofs
variable [Fuel]
structure FineSp (c : G_Spot) : Prop where
 at1 : Mid c.f_At
 hertz : Mid c.f_Hertz
 call : c.f_Call ∈ callsL
 by1 : c.f_By ∈ callsL
def cmpSp (x y : G_Spot) : Int := orL [cmpI x.f_At y.f_At, cmpI x.f_Hertz y.f_Hertz, Lib.compareBytes x.f_Call y.f_Call, Lib.compareBytes x.f_By y.f_By]
theorem band_compareSpots_is (x y : G_Spot) (R : Type) (k : Int → Option R) : band_compareSpots x y k = k (cmpSp x y) := by
 simp only [band_compareSpots, band_compareSpots_, I_band_compareSpots, cmpSp, cmp_Compare__int_is, strings_Compare_is]
 rw [cmp_Or__int_is _ (by simp)]
theorem slices_Compare_twoZ (a b c d : Int) (R : Type) (k : Int → Option R) : slices_Compare__int [a, b] [c, d] k = k (bif cmpI a c != 0 then cmpI a c else cmpI b d) := by
 obtain ⟨m, e, hm⟩ := NN_succ
 obtain ⟨m, rfl⟩ : ∃ q, m = q + 2 := ⟨m - 2, by omega⟩
 have w1 : w64 (0 + 1) = ((1 : Nat) : Int) := w64_eq (by omega) (by omega)
 have w2 : w64 (((1 : Nat) : Int) + 1) = ((2 : Nat) : Int) := by rw [w64_eq (by omega) (by omega)]; rfl
 have a0 : ∀ {R : Type} (x y : Int) (k : Int → Option R), get_ [x, y] 0 k = k x := fun x y k => get_nat (i := 0) rfl k
 have a1 : ∀ {R : Type} (x y : Int) (k : Int → Option R), get_ [x, y] ((1 : Nat) : Int) k = k y := fun x y k => get_nat (i := 1) rfl k
 have d0 : decide ((0 : Int) < ([a, b].length : Int)) = true := rfl
 have d1 : decide (((1 : Nat) : Int) < ([a, b].length : Int)) = true := rfl
 have d2 : decide (((2 : Nat) : Int) < ([a, b].length : Int)) = false := rfl
 have f0 : decide ((0 : Int) ≥ ([c, d].length : Int)) = false := rfl
 have f1 : decide (((1 : Nat) : Int) ≥ ([c, d].length : Int)) = false := rfl
 have f2 : decide (([a, b].length : Int) < ([c, d].length : Int)) = false := rfl
 simp only [slices_Compare__int, slices_Compare__int_]
 rw [show I_slices_Compare__int.N = m + 2 + 1 from e]
 simp only [slices_Compare__int_L2, d0, d1, d2, f0, f1, f2, w1, w2, a0, a1, I_slices_Compare__int, cond_true, cond_false, cmp_Compare__int_is]
 cases h1 : cmpI a c != 0 with
 | true => simp only [cond_true]
 | false =>
  simp only [cond_false]
  cases h2 : cmpI b d != 0 with
  | true => simp only [cond_true]
  | false =>
   have h3 : cmpI b d = 0 := by simpa using h2
   simp only [cond_false, h3]
theorem cmp_Compare_str (a b : List UInt8) (R : Type) (k : Int → Option R) : cmp_Compare__string a b k = k (Lib.compareBytes a b) := by
 simp only [cmp_Compare__string, cmp_Compare__string_, I_cmp_Compare__string, cmp_isNaN__string, cmp_isNaN__string_, beq_self_eq_true, Bool.not_true, cond_false, bytesLess_is]
 rcases cb_cases a b with h | h | h
 ·rw [h]; rfl
 ·have e := cb_zero a b h
  subst e
  rw [h, beq_self_eq_true]; rfl
 ·have e : (a == b) = false := by
   cases hq : a == b with
   | false => rfl
   | true => have := eq_of_beq hq; subst this; rw [cb_self] at h; cases h
  rw [h, e]; rfl
theorem slices_Compare_twoS (a b c d : List UInt8) (R : Type) (k : Int → Option R) : slices_Compare__string [a, b] [c, d] k = k (bif Lib.compareBytes a c != 0 then Lib.compareBytes a c else Lib.compareBytes b d) := by
 obtain ⟨m, e, hm⟩ := NN_succ
 obtain ⟨m, rfl⟩ : ∃ q, m = q + 2 := ⟨m - 2, by omega⟩
 have w1 : w64 (0 + 1) = ((1 : Nat) : Int) := w64_eq (by omega) (by omega)
 have w2 : w64 (((1 : Nat) : Int) + 1) = ((2 : Nat) : Int) := by rw [w64_eq (by omega) (by omega)]; rfl
 have a0 : ∀ {R : Type} (x y : List UInt8) (k : List UInt8 → Option R), get_ [x, y] 0 k = k x := fun x y k => get_nat (i := 0) rfl k
 have a1 : ∀ {R : Type} (x y : List UInt8) (k : List UInt8 → Option R), get_ [x, y] ((1 : Nat) : Int) k = k y := fun x y k => get_nat (i := 1) rfl k
 have d0 : decide ((0 : Int) < ([a, b].length : Int)) = true := rfl
 have d1 : decide (((1 : Nat) : Int) < ([a, b].length : Int)) = true := rfl
 have d2 : decide (((2 : Nat) : Int) < ([a, b].length : Int)) = false := rfl
 have f0 : decide ((0 : Int) ≥ ([c, d].length : Int)) = false := rfl
 have f1 : decide (((1 : Nat) : Int) ≥ ([c, d].length : Int)) = false := rfl
 have f2 : decide (([a, b].length : Int) < ([c, d].length : Int)) = false := rfl
 simp only [slices_Compare__string, slices_Compare__string_]
 rw [show I_slices_Compare__string.N = m + 2 + 1 from e]
 simp only [slices_Compare__string_L2, d0, d1, d2, f0, f1, f2, w1, w2, a0, a1, I_slices_Compare__string, cond_true, cond_false, cmp_Compare_str]
 cases h1 : Lib.compareBytes a c != 0 with
 | true => simp only [cond_true]
 | false =>
  simp only [cond_false]
  cases h2 : Lib.compareBytes b d != 0 with
  | true => simp only [cond_true]
  | false =>
   have h3 : Lib.compareBytes b d = 0 := by simpa using h2
   simp only [cond_false, h3]
theorem Q_SpotOrder_is (x y : G_Spot) (R : Type) (k : Int → Option R) : Q_SpotOrder x y k = k (cmpSp x y) := by
 simp only [Q_SpotOrder, Q_SpotOrder_, I_Q_SpotOrder, slices_Compare_twoZ, slices_Compare_twoS, cmpSp, orL]
 cases h1 : cmpI x.f_At y.f_At != 0 with
 | true => simp only [cond_true, h1]
 | false =>
  cases h2 : cmpI x.f_Hertz y.f_Hertz != 0 with
  | true => simp only [cond_true, cond_false, h2]
  | false =>
   simp only [cond_false, h2]
   cases h3 : Lib.compareBytes x.f_Call y.f_Call != 0 with
   | true => simp only [cond_true]
   | false =>
    simp only [cond_false]
    cases h4 : Lib.compareBytes x.f_By y.f_By != 0 with
    | true => rfl
    | false =>
     have : Lib.compareBytes x.f_By y.f_By = 0 := by simpa using h4
     rw [this]; rfl
theorem sortS_ord {l : List G_Spot} (hl : l.length ≤ 20) (R : Type) (k : List G_Spot → Option R) : slices_SortStableFunc__Spot_Q_SpotOrder l k = k (sortI cmpSp l) := by
 simp only [slices_SortStableFunc__Spot_Q_SpotOrder, slices_SortStableFunc__Spot_Q_SpotOrder_, I_slices_SortStableFunc__Spot_Q_SpotOrder, li_slices_stableCmpFunc__Spot_Q_SpotOrder]
 exact sSta_is cmpSp (fun _ => True) (fun x y _ _ => Q_SpotOrder_is x y) l (fun _ _ => trivial) hl (by have := NN_ok; omega) (by have := NN_ok; omega) _ (fun l a b R k => by rw [li_slices_insertionSortCmpFunc__Spot_Q_SpotOrder]) k
theorem compS_is {l : List G_Spot} (hl : l.length ≤ 100000) (R : Type) (k : List G_Spot → Option R) : slices_Compact__Spot l k = k (compactP eq_G_Spot l) := by
 rw [li_slices_Compact__Spot]
 exact sComp_is eq_G_Spot (fun _ => True) (fun x y _ _ R k => rfl) l (by have := NN_ok; omega) (by have := NN_ok; omega) (fun _ _ => trivial) k
theorem equalS_is {l : List G_Spot} (hl : l.length ≤ 1000000) (R : Type) (k : Bool → Option R) : slices_Equal__Spot l l k = k true := by
 rw [li_slices_Equal__Spot]; exact sEqual_same (by have := NN_ok; omega) (by have := NN_ok; omega) (fun x => by rw [(eq_G_Spot_is x x).2 rfl]; rfl) k
theorem Stream_Spots_loop (m : Nat) : ∀ (n i : Nat) (at0 : Int) (s : G_Stream) (out : List G_Spot) (b : Int), m - i < n → i ≤ m → SOk (b + 20 * (i : Int)) s → b ≤ 1000000 → 0 ≤ at0 → at0 ≤ 20 * (i : Int) → out.length = i → (∀ c ∈ out, FineSp c) → m ≤ 600 →
  ∃ (r : List G_Spot) (s' : G_Stream), SOk (b + 20 * (m : Int)) s' ∧ r.length = m ∧ (∀ c ∈ r, FineSp c) ∧ ∀ (R : Type) (e0 : G_Stream → List G_Spot → Option R), Stream_Spots_L4 I_Stream_Spots n at0 (m : Int) (i : Int) s out e0 = e0 s' r
 | 0, i, _, _, _, _, h, _, _, _, _, _, _, _, _ => by omega
 | n + 1, i, at0, s, out, b, h, hi, hs, hb, h1, h2, ho, hf, hm6 => by
  by_cases hc : i < m
  ·obtain ⟨p, s1, hp, z1, e1⟩ := Stream_Pick_gives hs [0, 1, 5, 20] (by omega) (by simp) (by simp)
   obtain ⟨hz, s2, hhz, z2, e2⟩ := Stream_Pick_gives z1 [7000000, 7100000, 7299999, 7300000, 14000000, 14010000, 14020000, 14020000, 1800000, 5000000] (by omega) (by simp) (by simp)
   obtain ⟨cl, s3, hcl, z3, e3⟩ := Stream_ACall_gives z2 (by omega)
   obtain ⟨bd, s4, hbd, z4, e4⟩ := Stream_Some_gives z3 [[119, 49, 97, 119], [110, 49, 109, 109]] (by omega) (by simp) (by simp)
   obtain ⟨f, s5, z5, e5⟩ := Stream_Flip_gives z4 80 (by omega) (by omega)
   simp only [List.mem_cons, List.not_mem_nil, or_false] at hp hhz
   have ea : w64 (at0 + p) = at0 + p := w64_eq (by omega) (by omega)
   have hcard : ∃ (c : G_Spot) (s' : G_Stream), FineSp c ∧ SOk (b + 20 * ((i + 1 : Nat) : Int)) s' ∧ ∀ (R : Type) (e0 : G_Stream → List G_Spot → Option R), Stream_Spots_L4 I_Stream_Spots (n + 1) at0 (m : Int) (i : Int) s out e0 = Stream_Spots_L4 I_Stream_Spots n (at0 + p) (m : Int) ((i + 1 : Nat) : Int) s' (out ++ [c]) e0 := by
    cases f with
    | false =>
     refine ⟨⟨at0 + p, hz, cl, bd⟩, s5, ⟨⟨by simp only; omega, by simp only; omega⟩, ⟨by simp only; omega, by simp only; omega⟩, hcl, sub_mem hbd (by decide +kernel)⟩, z5.mono (by omega), fun R e0 => ?_⟩
     rw [Stream_Spots_L4]
     simp only [I_Stream_Spots, decide_eq_true (show (i : Int) < (m : Int) by omega), cond_true, e1, e2, e3, e4, e5, ea, cond_false, room1 out _ 48 (show out.length ≤ 1000000 by omega) (by omega)]
     rw [w64_succ (by omega)]
    | true =>
     obtain ⟨x1, t1, x11, x12, y1, f1⟩ := Stream_Odd_gives z5 0 100 (by omega) (by omega) (by omega) (by omega) (by omega)
     obtain ⟨x2, t2, x21, x22, y2, f2⟩ := Stream_Odd_gives y1 0 30000000000 (by omega) (by omega) (by omega) (by omega) (by omega)
     obtain ⟨x4, t4, hx4, y4, f4⟩ := Stream_Some_gives y2 [[], [119, 49, 97, 119]] (by omega) (by simp) (by simp)
     refine ⟨⟨x1, x2, cl, x4⟩, t4, ⟨⟨by simp only; omega, by simp only; omega⟩, ⟨by simp only; omega, by simp only; omega⟩, hcl, sub_mem hx4 (by decide +kernel)⟩, y4.mono (by omega), fun R e0 => ?_⟩
     rw [Stream_Spots_L4]
     simp only [I_Stream_Spots, decide_eq_true (show (i : Int) < (m : Int) by omega), cond_true, e1, e2, e3, e4, e5, ea, f1, f2, f4, room1 out _ 48 (show out.length ≤ 1000000 by omega) (by omega)]
     rw [w64_succ (by omega)]
   obtain ⟨c, s', hcf, zs, hstep⟩ := hcard
   obtain ⟨r, s'', g1, g2, g3, g4⟩ := Stream_Spots_loop m n (i + 1) (at0 + p) s' (out ++ [c]) b (by omega) (by omega) zs hb (by omega) (by omega) (by simp [ho]) (fun x hx => by
    rcases List.mem_append.1 hx with h | h
    ·exact hf x h
    ·simp at h; rw [h]; exact hcf) hm6
   exact ⟨r, s'', g1, g2, g3, fun R e0 => by rw [hstep, g4]⟩
  ·refine ⟨out, s, hs.mono (by omega), by omega, hf, fun R e0 => ?_⟩
   rw [Stream_Spots_L4, decide_eq_false (by omega)]; rfl
theorem Stream_Spots_gives {b : Int} {s : G_Stream} (hs : SOk b s) (hb : b ≤ 1000000) (m : Nat) (hm : m ≤ 20) :
  ∃ (r : List G_Spot) (s' : G_Stream), SOk (b + 20 * (m : Int)) s' ∧ r.length ≤ m ∧ (∀ c ∈ r, FineSp c) ∧ ∀ (R : Type) (k : List G_Spot → G_Stream → Option R), Stream_Spots s (m : Int) k = k r s' := by
 obtain ⟨r, s', g1, g2, g3, g4⟩ := Stream_Spots_loop m NN 0 0 s [] b (by have := NN_ok; omega) (by omega) (hs.mono (by omega)) hb (by omega) (by omega) rfl (fun c h => by cases h) (by omega)
 have g4' : ∀ (R : Type) (e0 : G_Stream → List G_Spot → Option R), Stream_Spots_L4 I_Stream_Spots I_Stream_Spots.N 0 (m : Int) 0 s [] e0 = e0 s' r := g4
 refine ⟨compactP eq_G_Spot (sortI cmpSp r), s', g1, ?_, fun c h => g3 c (sortI_mem.1 (compactP_sub h)), fun R k => ?_⟩
 ·have := compactP_len eq_G_Spot (sortI cmpSp r)
  have := sortI_length cmpSp r
  omega
 ·simp only [Stream_Spots, Stream_Spots_, g4']
  simp only [I_Stream_Spots, sortS_ord (show r.length ≤ 20 by omega), compS_is (show (sortI cmpSp r).length ≤ 100000 by rw [sortI_length]; omega)]
noncomputable def chkS (c : G_Spot) : Int := bif !momB c.f_At then 1 else bif !inB c.f_Hertz 0 30000000000 then 1 else bif !callB c.f_Call then 3 else bif !callB c.f_By then 3 else 0
noncomputable def faultSs : Option G_Spot → List G_Spot → Int
 | _, [] => 0
 | p, c :: cs => bif chkS c != 0 then chkS c else match p with
  | none => faultSs (some c) cs
  | some q => bif decide (cmpSp q c ≥ 0) then 7 else faultSs (some c) cs
theorem band_CheckSpots_loop (d : List G_Spot) (hf : ∀ c ∈ d, FineSp c) (hl : d.length ≤ 100000) : ∀ (xs : List G_Spot) (n i : Nat) (p : Option G_Spot), d.drop i = xs → PrevAt d i p → xs.length < n → ∀ (R : Type) (k : Int → Option R),
  band_CheckSpots_L4 I_band_CheckSpots n d d (d.length : Int) (i : Int) k (k 0) = k (faultSs p xs)
 | _, 0, _, _, _, _, h, _, _ => by omega
 | [], n + 1, i, p, h, _, _, _, _ => by rw [band_CheckSpots_L4, ge_drop h]; rfl
 | c :: cs, n + 1, i, p, h, hp, hn, R, k => by
  have h' := drop_cons h
  have ih := band_CheckSpots_loop d hf hl cs n (i + 1) (some c) h'.2.2.1 (prevAt_next h) (Nat.lt_of_succ_lt_succ (by simpa only [List.length_cons] using hn)) R k
  have hc := hf c (mem_drop h)
  rw [band_CheckSpots_L4, lt_drop h]
  simp only [I_band_CheckSpots] at ih
  simp only [cond_true, get_drop h, I_band_CheckSpots, kit_IsMoment_is, kit_Outside_is, call_Is_is hc.call, call_Is_is hc.by1, band_compareSpots_is, faultSs, chkS, w64_succ (show i < 4611686018427387904 by omega), ih]
  cases momB c.f_At <;> cases inB c.f_Hertz 0 30000000000 <;> cases callB c.f_Call <;> cases callB c.f_By <;> try rfl
  cases p with
  | none => rw [decide_eq_false (show ¬ ((i : Int) > 0) by unfold PrevAt at hp; omega)]; rfl
  | some q =>
   obtain ⟨h0, ys, hq⟩ := hp
   rw [decide_eq_true (show ((i : Int) > 0) by omega), prev_drop hq h0 (by omega)]
   simp only [Bool.not_true, cond_false, cond_true, bne_self_eq_false]
   cases decide (cmpSp q c ≥ 0) <;> rfl
theorem Q_SpotsFault_loop (d : List G_Spot) (hf : ∀ c ∈ d, FineSp c) (hl : d.length ≤ 100000) : ∀ (xs : List G_Spot) (n i : Nat) (p : Option G_Spot), d.drop i = xs → PrevAt d i p → xs.length < n → ∀ (R : Type) (k : Int → Option R),
  Q_SpotsFault_L4 I_Q_SpotsFault n d d (d.length : Int) (i : Int) k (k 0) = k (faultSs p xs)
 | _, 0, _, _, _, _, h, _, _ => by omega
 | [], n + 1, i, p, h, _, _, _, _ => by rw [Q_SpotsFault_L4, ge_drop h]; rfl
 | c :: cs, n + 1, i, p, h, hp, hn, R, k => by
  have h' := drop_cons h
  have ih := Q_SpotsFault_loop d hf hl cs n (i + 1) (some c) h'.2.2.1 (prevAt_next h) (Nat.lt_of_succ_lt_succ (by simpa only [List.length_cons] using hn)) R k
  have hc := hf c (mem_drop h)
  rw [Q_SpotsFault_L4, lt_drop h]
  simp only [I_Q_SpotsFault] at ih
  simp only [cond_true, get_drop h, I_Q_SpotsFault, Q_Moment_is, Q_in_is, Q_Call_is hc.call, Q_Call_is hc.by1, Q_SpotOrder_is, faultSs, chkS, w64_succ (show i < 4611686018427387904 by omega), ih]
  cases momB c.f_At <;> cases inB c.f_Hertz 0 30000000000 <;> cases callB c.f_Call <;> cases callB c.f_By <;> try rfl
  cases p with
  | none => rw [decide_eq_false (show ¬ ((i : Int) > 0) by unfold PrevAt at hp; omega)]; rfl
  | some q =>
   obtain ⟨h0, ys, hq⟩ := hp
   rw [decide_eq_true (show ((i : Int) > 0) by omega), prev_drop hq h0 (by omega)]
   simp only [Bool.not_true, cond_false, cond_true, bne_self_eq_false]
   cases decide (cmpSp q c ≥ 0) <;> rfl
noncomputable def faultS (d : List G_Spot) : Int := bif decide ((d.length : Int) > 2000) then 2 else faultSs none d
theorem band_CheckSpots_is {d : List G_Spot} (hf : ∀ c ∈ d, FineSp c) (hl : d.length ≤ 100000) (R : Type) (k : Int → Option R) : band_CheckSpots d k = k (faultS d) := by
 have h : band_CheckSpots_L4 I_band_CheckSpots I_band_CheckSpots.N d d (d.length : Int) 0 k (k 0) = k (faultSs none d) := band_CheckSpots_loop d hf hl d I_band_CheckSpots.N 0 none rfl rfl (show d.length < NN by have := NN_ok; omega) R k
 simp only [band_CheckSpots, band_CheckSpots_, faultS, h]
 cases decide ((d.length : Int) > 2000) <;> rfl
theorem Q_SpotsFault_is {d : List G_Spot} (hf : ∀ c ∈ d, FineSp c) (hl : d.length ≤ 100000) (R : Type) (k : Int → Option R) : Q_SpotsFault d k = k (faultS d) := by
 have h : Q_SpotsFault_L4 I_Q_SpotsFault I_Q_SpotsFault.N d d (d.length : Int) 0 k (k 0) = k (faultSs none d) := Q_SpotsFault_loop d hf hl d I_Q_SpotsFault.N 0 none rfl rfl (show d.length < NN by have := NN_ok; omega) R k
 simp only [Q_SpotsFault, Q_SpotsFault_, faultS, h]
 cases decide ((d.length : Int) > 2000) <;> rfl
end Go.Am
set_option linter.unusedVariables false
set_option linter.unusedSectionVars false
set_option linter.unusedSimpArgs false
set_option maxRecDepth 100000
namespace Go.Am
open Go Go.Proofs
variable [Fuel]
end Go.Am
set_option linter.unusedVariables false
set_option linter.unusedSectionVars false
set_option linter.unusedSimpArgs false
set_option maxRecDepth 100000
namespace Go.Am
open Go Go.Proofs
variable [Fuel]
end Go.Am
