/- The plain law, in Lean alone: R7, Q1, Q2. No condition: lemmas for the claim. -/
import Derived.Test.YtfifleplhegkdaaGreatDoorPlR4
set_option linter.unusedVariables false
set_option linter.unusedSectionVars false
set_option linter.unusedSimpArgs false
set_option maxRecDepth 100000
namespace Go.Am
open Go Go.Proofs
variable [Fuel]
theorem zero_or (x : Int) : x = 0 ∨ ((x != 0) = true ∧ (x == 0) = false) := by
 by_cases h : x = 0
 ·exact .inl h
 ·exact .inr ⟨by simp [h], by simp [h]⟩
end Go.Am
set_option linter.unusedVariables false
set_option linter.unusedSectionVars false
set_option linter.unusedSimpArgs false
set_option maxRecDepth 100000
namespace Go.Am
open Go Go.Proofs
variable [Fuel]
theorem slices_Compare_twoI (a b d e : Int) (R : Type) (k : Int → Option R) : slices_Compare__int [a, b] [d, e] k = k (orL [cmpI a d, cmpI b e]) := by
 obtain ⟨m, eN, hm⟩ := NN_succ
 obtain ⟨m, rfl⟩ : ∃ q, m = q + 2 := ⟨m - 2, by omega⟩
 have w1 : w64 (0 + 1) = ((1 : Nat) : Int) := w64_eq (by omega) (by omega)
 have w2 : w64 (((1 : Nat) : Int) + 1) = ((2 : Nat) : Int) := by rw [w64_eq (by omega) (by omega)]; rfl
 have a0 : ∀ {R : Type} (x y : Int) (k : Int → Option R), get_ [x, y] 0 k = k x := fun x y k => get_nat (i := 0) rfl k
 have a1 : ∀ {R : Type} (x y : Int) (k : Int → Option R), get_ [x, y] ((1 : Nat) : Int) k = k y := fun x y k => get_nat (i := 1) rfl k
 have d0 : decide ((0 : Int) < ([a, b].length : Int)) = true := rfl
 have d1 : decide (((1 : Nat) : Int) < ([a, b].length : Int)) = true := rfl
 have d2 : decide (((2 : Nat) : Int) < ([a, b].length : Int)) = false := rfl
 have f0 : decide ((0 : Int) ≥ ([d, e].length : Int)) = false := rfl
 have f1 : decide (((1 : Nat) : Int) ≥ ([d, e].length : Int)) = false := rfl
 have f2 : decide (([a, b].length : Int) < ([d, e].length : Int)) = false := rfl
 simp only [slices_Compare__int, slices_Compare__int_]
 rw [show I_slices_Compare__int.N = m + 2 + 1 from eN]
 simp only [slices_Compare__int_L2, d0, d1, d2, f0, f1, f2, w1, w2, a0, a1, I_slices_Compare__int, cond_true, cond_false, cmp_Compare__int_is, orL]
 cases h1 : cmpI a d != 0 with
 | true => simp only [cond_true]
 | false =>
  simp only [cond_false]
  cases h2 : cmpI b e != 0 with
  | true => simp only [cond_true]
  | false => simp only [cond_false]
def cmpU0 (x y : G_Busy) : Int := orL [cmpI x.f_Time.f_From y.f_Time.f_From, cmpI x.f_Hertz y.f_Hertz]
theorem Stream_Busies_1_is (x y : G_Busy) (R : Type) (k : Int → Option R) : Stream_Busies_1 x y k = k (cmpU0 x y) := by
 simp only [Stream_Busies_1, Stream_Busies_1_, I_Stream_Busies_1, slices_Compare_twoI, cmpU0]
def cmpU (x y : G_Busy) : Int := orL [cmpI x.f_Time.f_From y.f_Time.f_From, cmpI x.f_Hertz y.f_Hertz, Lib.compareBytes x.f_Who y.f_Who]
theorem band_compareBusy_is (x y : G_Busy) (R : Type) (k : Int → Option R) : band_compareBusy x y k = k (cmpU x y) := by
 simp only [band_compareBusy, band_compareBusy_, I_band_compareBusy, cmp_Compare__int_is, strings_Compare_is, cmpU]
 exact cmp_Or__int_is _ (by simp) R k
structure FineU (b : G_Busy) : Prop where
 who : b.f_Who ∈ callsL
theorem Stream_Busies_loop : ∀ (j n i : Nat) (b : Int) (s : G_Stream) (out : List G_Busy), j < n → i + j ≤ 20 → SOk b s → b + 20 * (j : Int) ≤ 900000 → out.length ≤ i → (∀ x ∈ out, FineU x) →
  ∃ (out' : List G_Busy) (s' : G_Stream), SOk (b + 20 * (j : Int)) s' ∧ out'.length ≤ i + j ∧ (∀ x ∈ out', FineU x) ∧ ∀ (R : Type) (e0 : G_Stream → List G_Busy → Option R), Stream_Busies_L3 I_Stream_Busies n ((i + j : Nat) : Int) (i : Int) s out e0 = e0 s' out'
 | _, 0, _, _, _, _, h, _, _, _, _, _ => by omega
 | 0, n + 1, i, b, s, out, _, hi, hs, hb, hl, hf => ⟨out, s, hs.mono (by omega), by omega, hf, fun R e0 => by rw [Stream_Busies_L3, decide_eq_false (by omega)]; rfl⟩
 | j + 1, n + 1, i, b, s, out, hn, hi, hs, hb, hl, hf => by
  obtain ⟨w, s1, hw, z1, e1⟩ := Stream_Some_gives hs [[107, 49, 97, 98], [111, 104, 50, 97, 98, 99], [119, 49, 97, 119], [107, 49, 97, 98]] (by omega) (by simp) (by simp)
  obtain ⟨hz, s2, _, _, z2, e2⟩ := Stream_Range_gives z1 90 320 (by omega) (by omega) (by omega) (by omega) (by omega)
  obtain ⟨wd, s3, _, z3, e3⟩ := Stream_Pick_gives z2 [1, 2, 3, 20, 50] (by omega) (by simp) (by simp)
  obtain ⟨fr, s4, _, z4, e4⟩ := Stream_Pick_gives z3 [0, 10, 40, 60] (by omega) (by simp) (by simp)
  obtain ⟨to, s5, _, z5, e5⟩ := Stream_Pick_gives z4 [10, 50, 100] (by omega) (by simp) (by simp)
  obtain ⟨f, s6, z6, e6⟩ := Stream_Flip_gives z5 60 (by omega) (by omega)
  have hw' : w ∈ callsL := sub_mem hw (by decide)
  have w1 : w64 ((i : Int) + 1) = ((i + 1 : Nat) : Int) := w64_succ (by omega)
  have rm : ∀ x : G_Busy, decide ((out.length + [x].length) * 48 ≤ roomBytes') = true := fun x => room1 out x 48 (by omega) (by omega)
  have hij : (i + (j + 1) : Nat) = (i + 1) + j := by omega
  have hd : decide ((i : Int) < ((i + (j + 1) : Nat) : Int)) = true := decide_eq_true (by omega)
  cases f with
  | false =>
   obtain ⟨o', s', g1, g2, g3, g4⟩ := Stream_Busies_loop j n (i + 1) (b + 20) s6 (out ++ [⟨w, hz, wd, ⟨fr, w64 (fr + to)⟩⟩]) (by omega) (by omega) (z6.mono (by omega)) (by omega) (by simp; omega) (fun x hx => by
    rcases List.mem_append.1 hx with hx | hx
    ·exact hf x hx
    ·simp at hx; rw [hx]; exact ⟨hw'⟩)
   refine ⟨o', s', g1.mono (by omega), by omega, g3, fun R e0 => ?_⟩
   rw [Stream_Busies_L3, hd]
   simp only [I_Stream_Busies] at g4
   simp only [I_Stream_Busies, cond_true, e1, e2, e3, e4, e5, e6, cond_false, rm, w1, hij, g4]
  | true =>
   obtain ⟨w2, s7, hw2, z7, e7⟩ := Stream_Some_gives z6 [w, []] (by omega) (by simp) (by simp)
   obtain ⟨x1, s8, _, _, z8, e8⟩ := Stream_Odd_gives z7 0 30000000000 (by omega) (by omega) (by omega) (by omega) (by omega)
   obtain ⟨x2, s9, _, _, z9, e9⟩ := Stream_Odd_gives z8 1 100000 (by omega) (by omega) (by omega) (by omega) (by omega)
   obtain ⟨x3, t1, _, _, y1, f1⟩ := Stream_Odd_gives z9 1 100 (by omega) (by omega) (by omega) (by omega) (by omega)
   have hw2' : w2 ∈ callsL := by
    simp only [List.mem_cons, List.not_mem_nil, or_false] at hw2
    rcases hw2 with rfl | rfl
    ·exact hw'
    ·simp [callsL]
   obtain ⟨o', s', g1, g2, g3, g4⟩ := Stream_Busies_loop j n (i + 1) (b + 20) t1 (out ++ [⟨w2, x1, x2, ⟨fr, x3⟩⟩]) (by omega) (by omega) (y1.mono (by omega)) (by omega) (by simp; omega) (fun x hx => by
    rcases List.mem_append.1 hx with hx | hx
    ·exact hf x hx
    ·simp at hx; rw [hx]; exact ⟨hw2'⟩)
   refine ⟨o', s', g1.mono (by omega), by omega, g3, fun R e0 => ?_⟩
   rw [Stream_Busies_L3, hd]
   simp only [I_Stream_Busies] at g4
   simp only [I_Stream_Busies, cond_true, e1, e2, e3, e4, e5, e6, e7, e8, e9, f1, rm, w1, hij, g4]
theorem Stream_Busies_gives {b : Int} {s : G_Stream} (hs : SOk b s) (hb : b ≤ 100000) :
  ∃ (r : List G_Busy) (s' : G_Stream), SOk (b + 200) s' ∧ r.length ≤ 6 ∧ (∀ c ∈ r, FineU c) ∧ ∀ (R : Type) (k : List G_Busy → G_Stream → Option R), Stream_Busies s k = k r s' := by
 obtain ⟨n, s1, n1, n2, z1, e1⟩ := Stream_Range_gives hs 0 6 (by omega) (by omega) (by omega) (by omega) (by omega)
 obtain ⟨m, rfl⟩ := Int.eq_ofNat_of_zero_le n1
 obtain ⟨r, s', g1, g2, g3, g4⟩ := Stream_Busies_loop m NN 0 (b + 1) s1 [] (by have := NN_ok; omega) (by omega) z1 (by omega) (by simp) (fun x h => by cases h)
 have g4' : ∀ (R : Type) (e0 : G_Stream → List G_Busy → Option R), Stream_Busies_L3 I_Stream_Busies I_Stream_Busies.N (m : Int) 0 s1 [] e0 = e0 s' r := fun R e0 => by
  have := g4 R e0
  rw [Nat.zero_add] at this
  exact this
 refine ⟨sortI cmpU0 r, s', g1.mono (by omega), by rw [sortI_length]; omega, fun c h => g3 c (sortI_mem.1 h), fun R k => ?_⟩
 have hsort : ∀ k : List G_Busy → Option R, slices_SortStableFunc__Busy_Stream_Busies_1 r k = k (sortI cmpU0 r) := fun k => by
  simp only [slices_SortStableFunc__Busy_Stream_Busies_1, slices_SortStableFunc__Busy_Stream_Busies_1_, I_slices_SortStableFunc__Busy_Stream_Busies_1, li_slices_stableCmpFunc__Busy_Stream_Busies_1]
  exact sSta_is cmpU0 (fun _ => True) (fun x y _ _ => Stream_Busies_1_is x y) r (fun _ _ => trivial) (by omega) (by have := NN_ok; omega) (by have := NN_ok; omega) _ (fun l a b R k => by rw [li_slices_insertionSortCmpFunc__Busy_Stream_Busies_1]) k
 simp only [Stream_Busies, Stream_Busies_, g4']
 simp only [I_Stream_Busies, e1, hsort]
 refine Eq.trans (g4' R (fun e151 e152 => slices_SortStableFunc__Busy_Stream_Busies_1 e152 fun r153 => k r153 e151)) (hsort _)
structure GoodU (b : G_Busy) : Prop where
 h1 : 0 ≤ b.f_Hertz
 h2 : b.f_Hertz ≤ 30000000000
 w1 : 1 ≤ b.f_Width
 w2 : b.f_Width ≤ 100000
 t1 : b.f_Time.f_From < b.f_Time.f_To
noncomputable def chkU (s : G_Busy) : Int := bif !callB s.f_Who then 3 else bif !inB s.f_Hertz 0 30000000000 then 1 else bif !inB s.f_Width 1 100000 then 1 else bif !timeB s.f_Time then 1 else 0
noncomputable def faultUs : Option G_Busy → List G_Busy → Int
 | _, [] => 0
 | p, c :: cs => bif chkU c != 0 then chkU c else match p with
  | none => faultUs (some c) cs
  | some q => bif decide (cmpU q c ≥ 0) then 7 else faultUs (some c) cs
theorem chkU_good {s : G_Busy} (h : chkU s = 0) : GoodU s := by
 unfold chkU at h
 cases h0 : callB s.f_Who with
 | false => rw [h0] at h; simp at h
 | true =>
  cases h1 : inB s.f_Hertz 0 30000000000 with
  | false => rw [h0, h1] at h; simp at h
  | true =>
   cases h2 : inB s.f_Width 1 100000 with
   | false => rw [h0, h1, h2] at h; simp at h
   | true =>
    cases h3 : timeB s.f_Time with
    | false => rw [h0, h1, h2, h3] at h; simp at h
    | true =>
     have h1 := inB_is.1 h1
     have h2 := inB_is.1 h2
     simp only [timeB, Bool.and_eq_true, decide_eq_true_eq] at h3
     exact ⟨h1.1, h1.2, h2.1, h2.2, h3.2.1⟩
theorem faultUs_good : ∀ (l : List G_Busy) (p : Option G_Busy), faultUs p l = 0 → ∀ c ∈ l, GoodU c
 | [], _, _, c, h => by cases h
 | x :: xs, p, h, c, hc => by
  unfold faultUs at h
  cases hq : chkU x != 0 with
  | true => rw [hq] at h; simp only [cond_true] at h; rw [h] at hq; cases hq
  | false =>
   rw [hq] at h
   simp only [cond_false] at h
   have h0 : chkU x = 0 := by simpa using hq
   have h2 : faultUs (some x) xs = 0 := by
    cases p with
    | none => exact h
    | some q =>
     simp only at h
     cases hd : decide (cmpU q x ≥ 0) with
     | true => rw [hd] at h; simp only [cond_true] at h; omega
     | false => rw [hd] at h; exact h
   rcases List.mem_cons.1 hc with rfl | hc
   ·exact chkU_good h0
   ·exact faultUs_good xs (some x) h2 c hc
noncomputable def faultU (d : List G_Busy) : Int := bif decide ((d.length : Int) > 500) then 2 else faultUs none d
theorem faultU_good {l : List G_Busy} (h : faultU l = 0) : ∀ c ∈ l, GoodU c := by
 unfold faultU at h
 cases hd : decide ((l.length : Int) > 500) with
 | true => rw [hd] at h; simp only [cond_true] at h; omega
 | false => rw [hd] at h; exact faultUs_good l none h
theorem band_CheckBusy_loop (d : List G_Busy) (hf : ∀ c ∈ d, FineU c) (hl : d.length ≤ 100000) : ∀ (xs : List G_Busy) (n i : Nat) (p : Option G_Busy), d.drop i = xs → PrevAt d i p → xs.length < n → ∀ (R : Type) (k : Int → Option R),
  band_CheckBusy_L4 I_band_CheckBusy n d d (d.length : Int) (i : Int) k (k 0) = k (faultUs p xs)
 | _, 0, _, _, _, _, h, _, _ => by omega
 | [], n + 1, i, p, h, _, _, _, _ => by rw [band_CheckBusy_L4, ge_drop h]; rfl
 | c :: cs, n + 1, i, p, h, hp, hn, R, k => by
  have h' := drop_cons h
  have ih := band_CheckBusy_loop d hf hl cs n (i + 1) (some c) h'.2.2.1 (prevAt_next h) (by simp at hn; omega) R k
  have hc := hf c (mem_drop h)
  rw [band_CheckBusy_L4, lt_drop h]
  simp only [I_band_CheckBusy] at ih
  simp only [cond_true, get_drop h, I_band_CheckBusy, call_Is_is hc.who, kit_Outside_is, kit_IsTime_is, band_compareBusy_is, faultUs, chkU, w64_succ (show i < 4611686018427387904 by omega), ih]
  cases callB c.f_Who <;> cases inB c.f_Hertz 0 30000000000 <;> cases inB c.f_Width 1 100000 <;> try rfl
  cases timeB c.f_Time <;> try rfl
  cases p with
  | none => rw [decide_eq_false (show ¬ ((i : Int) > 0) by unfold PrevAt at hp; omega)]; rfl
  | some q =>
   obtain ⟨h0, ys, hq⟩ := hp
   rw [decide_eq_true (show ((i : Int) > 0) by omega), prev_drop hq h0 (by omega)]
   simp only [Bool.not_true, cond_false, cond_true, bne_self_eq_false]
   cases decide (cmpU q c ≥ 0) <;> rfl
theorem band_CheckBusy_is {d : List G_Busy} (hf : ∀ c ∈ d, FineU c) (hl : d.length ≤ 100000) (R : Type) (k : Int → Option R) : band_CheckBusy d k = k (faultU d) := by
 have h : band_CheckBusy_L4 I_band_CheckBusy I_band_CheckBusy.N d d (d.length : Int) 0 k (k 0) = k (faultUs none d) := band_CheckBusy_loop d hf hl d NN 0 none rfl rfl (by have := NN_ok; omega) R k
 simp only [band_CheckBusy, band_CheckBusy_, faultU, h]
 cases decide ((d.length : Int) > 500) <;> rfl
end Go.Am
set_option linter.unusedVariables false
set_option linter.unusedSectionVars false
set_option linter.unusedSimpArgs false
set_option maxRecDepth 100000
namespace Go.Am
open Go Go.Proofs
variable [Fuel]
def shr1 (w : Int) (r : G_Row) : G_Row := ⟨w64 (r.f_From + w64 (Int.tdiv w 2)), w64 (w64 (w64 (r.f_To - w) + w64 (Int.tdiv w 2)) + 1)⟩
def shrC (w : Int) (r : G_Row) : Bool := decide (w64 (r.f_To - r.f_From) ≥ w)
def shrL (w : Int) (l : List G_Row) : List G_Row := (l.filter (shrC w)).map (shr1 w)
def Low (l : List G_Row) : Prop := ∀ r ∈ l, 0 ≤ r.f_From ∧ r.f_To ≤ 30000000000
theorem half_of {w : Int} (h1 : 1 ≤ w) (h2 : w ≤ 100000) : w64 (Int.tdiv w 2) = w / 2 := by
 rw [Int.tdiv_eq_ediv_of_nonneg (by omega), w64_eq (by omega) (by omega)]
theorem shr1_is {w : Int} (h1 : 1 ≤ w) (h2 : w ≤ 100000) {r : G_Row} (hr : 0 ≤ r.f_From ∧ r.f_To ≤ 30000000000) (hlt : r.f_From < r.f_To) : shr1 w r = ⟨r.f_From + w / 2, r.f_To - w + w / 2 + 1⟩ ∧ shrC w r = decide (r.f_To - r.f_From ≥ w) := by
 unfold shr1 shrC
 rw [half_of h1 h2, w64_eq (x := r.f_From + w / 2) (by omega) (by omega), w64_eq (x := r.f_To - w) (by omega) (by omega), w64_eq (x := r.f_To - w + w / 2) (by omega) (by omega), w64_eq (x := r.f_To - w + w / 2 + 1) (by omega) (by omega), w64_eq (x := r.f_To - r.f_From) (by omega) (by omega)]
 exact ⟨rfl, rfl⟩
theorem shr_can {w : Int} (h1 : 1 ≤ w) (h2 : w ≤ 100000) : ∀ (C out : List G_Row), Can C → Low C → Can out → (∀ p ∈ out, ∀ r ∈ C, p.f_To < r.f_From + w / 2) →
  Can (out ++ shrL w C) ∧ ∀ n, cov (out ++ shrL w C) n = (cov out n || C.any fun r => decide (r.f_From ≤ n - w / 2) && decide (n - w / 2 + w ≤ r.f_To))
 | [], out, _, _, h, _ => ⟨by simpa [shrL] using h, fun n => by simp [shrL]⟩
 | r :: rs, out, hc, hl, h, hlt => by
  obtain ⟨r1, r2, r3⟩ := can_cons.1 hc
  obtain ⟨e1, e2⟩ := shr1_is h1 h2 (hl r (by simp)) r1
  have hls : Low rs := fun x hx => hl x (by simp [hx])
  by_cases hq : r.f_To - r.f_From ≥ w
  ·have es : shrL w (r :: rs) = [shr1 w r] ++ shrL w rs := by simp [shrL, e2, hq]
   have hcan : Can (out ++ [shr1 w r]) := can_snoc.2 ⟨h, fun x hx => by rw [e1]; exact hlt x hx r (by simp), by rw [e1]; simp only; omega⟩
   obtain ⟨g1, g2⟩ := shr_can h1 h2 rs (out ++ [shr1 w r]) r3 hls hcan (fun p hp x hx => by
    rcases List.mem_append.1 hp with hp | hp
    ·exact hlt p hp x (by simp [hx])
    ·simp at hp; rw [hp, e1]; simp only; have := r2 x hx; omega)
   rw [es, ← List.append_assoc]
   refine ⟨g1, fun n => ?_⟩
   rw [g2, cov_append, List.any_cons, Bool.or_assoc]
   congr 1
   congr 1
   rw [e1]
   simp only [cov, List.any_cons, List.any_nil, Bool.or_false, inRow]
   rw [Bool.eq_iff_iff]
   simp only [Bool.and_eq_true, decide_eq_true_eq]
   omega
  ·have es : shrL w (r :: rs) = shrL w rs := by simp [shrL, e2, hq]
   obtain ⟨g1, g2⟩ := shr_can h1 h2 rs out r3 hls h (fun p hp x hx => hlt p hp x (by simp [hx]))
   rw [es]
   refine ⟨g1, fun n => ?_⟩
   rw [g2, List.any_cons]
   have : (decide (r.f_From ≤ n - w / 2) && decide (n - w / 2 + w ≤ r.f_To)) = false := by
    rw [Bool.and_eq_false_iff, decide_eq_false_iff_not, decide_eq_false_iff_not]
    omega
   rw [this, Bool.false_or]
theorem shr_cov {w : Int} (h1 : 1 ≤ w) (h2 : w ≤ 100000) {C : List G_Row} (hc : Can C) (hl : Low C) : Can (shrL w C) ∧ ∀ n, cov (shrL w C) n = true ↔ ∀ m, n - w / 2 ≤ m → m < n - w / 2 + w → cov C m = true := by
 obtain ⟨g1, g2⟩ := shr_can h1 h2 C [] hc hl can_nil (fun p hp => by cases hp)
 refine ⟨g1, fun n => ?_⟩
 have := g2 n
 rw [List.nil_append] at this
 rw [this]
 have h3 := inside_one hc (u := ⟨n - w / 2, n - w / 2 + w⟩) (by simp only; omega)
 simp only at h3
 rw [show cov [] n = false from rfl, Bool.false_or]
 exact h3
theorem low_of {C : List G_Row} (hc : ∀ r ∈ C, r.f_From < r.f_To) (h : ∀ n, cov C n = true → 0 ≤ n ∧ n < 30000000000) : Low C := by
 intro r hr
 have a := h r.f_From (cov_iff.2 ⟨r, hr, by omega, hc r hr⟩)
 have b := h (r.f_To - 1) (cov_iff.2 ⟨r, hr, by have := hc r hr; omega, by omega⟩)
 omega
theorem perm_low {l : List G_Segment} (hg : ∀ s ∈ l, GoodG s) (cls : List UInt8) (mode at0 : Int) (W : List G_Row) : Low (rowsL (permL cls mode at0 [] l) W) := by
 obtain ⟨r1, r2⟩ := rows_can (permL cls mode at0 [] l) W
 refine low_of r1.2 fun n hn => ?_
 rw [r2, Bool.and_eq_true] at hn
 obtain ⟨p, hp, h3, h4⟩ := cov_iff.1 hn.1
 rcases permL_mem cls mode at0 l [] p hp with hh | ⟨s, hs, rfl⟩
 ·cases hh
 ·have := (hg s hs).low; have := (hg s hs).high; simp only at h3 h4; omega
def hasU (at0 : Int) (b : G_Busy) : Bool := decide (b.f_Time.f_From ≤ at0) && decide (at0 < b.f_Time.f_To)
def usedU (b : G_Busy) : G_Row := usedR b.f_Hertz b.f_Width
theorem usedU_is {b : G_Busy} (h : GoodU b) : usedU b = ⟨b.f_Hertz - b.f_Width / 2, b.f_Hertz - b.f_Width / 2 + b.f_Width⟩ := by
 unfold usedU usedR
 have := h.h1; have := h.h2; have := h.w1; have := h.w2
 rw [half_of h.w1 h.w2, w64_eq (x := b.f_Hertz - b.f_Width / 2) (by omega) (by omega), w64_eq (by omega) (by omega)]
def grw (w : Int) (u : G_Row) : G_Row := ⟨w64 (w64 (w64 (u.f_From - w) + w64 (Int.tdiv w 2)) + 1), w64 (u.f_To + w64 (Int.tdiv w 2))⟩
theorem grw_is {w : Int} (h1 : 1 ≤ w) (h2 : w ≤ 100000) {b : G_Busy} (h : GoodU b) : grw w (usedU b) = ⟨b.f_Hertz - b.f_Width / 2 - w + w / 2 + 1, b.f_Hertz - b.f_Width / 2 + b.f_Width + w / 2⟩ := by
 have := h.h1; have := h.h2; have := h.w1; have := h.w2
 unfold grw
 rw [usedU_is h, half_of h1 h2]
 simp only
 rw [w64_eq (x := b.f_Hertz - b.f_Width / 2 - w) (by omega) (by omega), w64_eq (x := b.f_Hertz - b.f_Width / 2 - w + w / 2) (by omega) (by omega), w64_eq (x := b.f_Hertz - b.f_Width / 2 - w + w / 2 + 1) (by omega) (by omega), w64_eq (by omega) (by omega)]
theorem band_free_L3_is (ul : List G_Busy) (w at0 : Int) (l : List G_Row) (hl : l.length ≤ 1000) : ∀ (xs : List G_Row) (n i : Nat) (out : List G_Row), l.drop i = xs → xs.length < n → out.length ≤ i →
  ∀ (R : Type) (e0 : List G_Busy → Int → Int → List G_Row → Option R), band_free_L3 I_band_free n ul w at0 (l.length : Int) (i : Int) l out e0 = e0 ul w at0 (out ++ shrL w xs)
 | _, 0, _, _, _, h, _, _, _ => by omega
 | [], n + 1, i, out, h, _, _, R, e0 => by rw [band_free_L3, ge_drop h]; simp [shrL]
 | r :: xs, n + 1, i, out, h, hn, ho, R, e0 => by
  have h' := drop_cons h
  simp at hn
  have ih1 := band_free_L3_is ul w at0 l hl xs n (i + 1) (out ++ [shr1 w r]) h'.2.2.1 (by omega) (by simp; omega) R e0
  have ih2 := band_free_L3_is ul w at0 l hl xs n (i + 1) out h'.2.2.1 (by omega) (by omega) R e0
  rw [band_free_L3, lt_drop h]
  simp only [cond_true, inr_drop h, at_drop h, w64_succ (show i < 4611686018427387904 by omega)]
  show (bif shrC w r then (bif decide ((out.length + [shr1 w r].length) * 16 ≤ roomBytes') then band_free_L3 I_band_free n ul w at0 (l.length : Int) ((i + 1 : Nat) : Int) l (out ++ [shr1 w r]) e0 else none) else band_free_L3 I_band_free n ul w at0 (l.length : Int) ((i + 1 : Nat) : Int) l out e0) = _
  rw [ih1, ih2, room1 out _ 16 (show out.length ≤ 1000000 by omega) (by omega)]
  cases hc : shrC w r <;> simp [shrL, hc]
theorem band_free_L9_is (w at0 : Int) (may : List G_Row) (l : List G_Busy) (hl : l.length ≤ 1000) : ∀ (xs : List G_Busy) (n i : Nat) (out : List G_Row), l.drop i = xs → xs.length < n → out.length ≤ i →
  ∀ (R : Type) (e0 : List G_Row → List G_Row → Option R), band_free_L9 I_band_free n w at0 l (l.length : Int) (i : Int) may out e0 = e0 may (out ++ (xs.filter (hasU at0)).map fun b => grw w (usedU b))
 | _, 0, _, _, _, h, _, _, _ => by omega
 | [], n + 1, i, out, h, _, _, R, e0 => by rw [band_free_L9, ge_drop h]; simp
 | r :: xs, n + 1, i, out, h, hn, ho, R, e0 => by
  have h' := drop_cons h
  simp at hn
  have hu : ∀ (a b : Int) (R : Type) (k : G_Row → Option R), band_used a b k = k (usedR a b) := fun a b R k => rfl
  have ih1 := band_free_L9_is w at0 may l hl xs n (i + 1) (out ++ [grw w (usedU r)]) h'.2.2.1 (by omega) (by simp; omega) R e0
  have ih2 := band_free_L9_is w at0 may l hl xs n (i + 1) out h'.2.2.1 (by omega) (by omega) R e0
  rw [band_free_L9, lt_drop h]
  simp only [cond_true, get_drop h, w64_succ (show i < 4611686018427387904 by omega)]
  have hk : ∀ k : Bool → Option R, I_band_free.kit_Has r.f_Time at0 k = k (hasU at0 r) := fun k => kit_Has_is r.f_Time at0 R k
  rw [hk]
  show (bif hasU at0 r then (bif decide ((out.length + [grw w (usedU r)].length) * 16 ≤ roomBytes') then band_free_L9 I_band_free n w at0 l (l.length : Int) ((i + 1 : Nat) : Int) may (out ++ [grw w (usedU r)]) e0 else none) else band_free_L9 I_band_free n w at0 l (l.length : Int) ((i + 1 : Nat) : Int) may out e0) = _
  rw [ih1, ih2, room1 out _ 16 (show out.length ≤ 1000000 by omega) (by omega)]
  cases hc : hasU at0 r <;> simp [hc]
noncomputable def usedBy (ul : List G_Busy) (at0 : Int) : List G_Row := (ul.filter (hasU at0)).map usedU
noncomputable def freeL (l : List G_Segment) (ul : List G_Busy) (cls : List UInt8) (mode w at0 : Int) : List G_Row := shrL w (rowsL (permL cls mode at0 [] l) (usedBy ul at0))
theorem rowsL_len2 {P W : List G_Row} (hP : P.length ≤ 400) (hW : W.length ≤ 400) : (rowsL P W).length ≤ 2000 := by
 have h1 := edgesOf_len (P ++ W)
 have h2 : ∀ (es : List Int) (f : Int → Bool) (out : List G_Row), (edgeL f out es).length ≤ out.length + es.length := by
  intro es
  induction es with
  | nil => intro f out; simp [edgeL]
  | cons a es ih =>
   intro f out
   cases es with
   | nil => simp [edgeL]
   | cons b rest =>
    unfold edgeL
    have h3 := ih f (bif f a then addE out a b else out)
    have h4 := addE_len out a b
    cases hq : f a <;> rw [hq] at h3 <;> simp only [cond_true, cond_false] at h3 ⊢ <;> simp only [List.length_cons] at h3 ⊢ <;> omega
 have h3 := h2 (edgesOf (P ++ W)) (fun n => cov P n && !cov W n) []
 unfold rowsL
 simp at h1 h3
 omega
theorem shrL_len (w : Int) (l : List G_Row) : (shrL w l).length ≤ l.length := by
 unfold shrL
 rw [List.length_map]
 exact List.length_filter_le _ _
theorem band_free_is {l : List G_Segment} (hm : ∀ s ∈ l, s.f_Modes.length ≤ 1000) (hg : ∀ s ∈ l, GoodG s) (hl : l.length ≤ 400) {ul : List G_Busy} (hu : ∀ b ∈ ul, GoodU b) (hul : ul.length ≤ 400) (cls : List UInt8) (mode at0 : Int) {w : Int} (w1 : 1 ≤ w) (w2 : w ≤ 100000) (R : Type) (k : List G_Row → Option R) :
  band_free l ul cls mode w at0 k = k (freeL l ul cls mode w at0) := by
 obtain ⟨p1, p2⟩ := band_permitted_is hm hg (by omega) cls mode at0
 have c1 := rows_can (permL cls mode at0 [] l) []
 have low1 := perm_low hg cls mode at0 []
 generalize hC : rowsL (permL cls mode at0 [] l) [] = C at p1 p2 c1 low1
 have h1 : ∀ e0 : List G_Busy → Int → Int → List G_Row → Option R, band_free_L3 I_band_free I_band_free.N ul w at0 (C.length : Int) 0 C [] e0 = e0 ul w at0 (shrL w C) := fun e0 => by
  have := band_free_L3_is ul w at0 C (by omega) C NN 0 [] rfl (by have := NN_ok; omega) (by simp) R e0
  rw [List.nil_append] at this
  exact this
 have h2 : ∀ (may : List G_Row) (e0 : List G_Row → List G_Row → Option R), band_free_L9 I_band_free I_band_free.N w at0 ul (ul.length : Int) 0 may [] e0 = e0 may ((ul.filter (hasU at0)).map fun b => grw w (usedU b)) := fun may e0 => by
  have := band_free_L9_is w at0 may ul (by omega) ul NN 0 [] rfl (by have := NN_ok; omega) (by simp) R e0
  rw [List.nil_append] at this
  exact this
 obtain ⟨s1, s2⟩ := shr_cov w1 w2 c1.1 low1
 have slen := shrL_len w C
 have mLow : ∀ r ∈ shrL w C, -4398046511104 ≤ r.f_From ∧ r.f_From ≤ 4398046511104 := fun r hr => by
  unfold shrL at hr
  obtain ⟨q, hq, rfl⟩ := List.mem_map.1 hr
  have hq := (List.mem_filter.1 hq).1
  obtain ⟨e1, _⟩ := shr1_is w1 w2 (low1 q hq) (c1.1.2 q hq)
  rw [e1]
  have := low1 q hq
  have := c1.1.2 q hq
  simp only; omega
 obtain ⟨J1, j1, j2, j3, j4⟩ := band_joined_is mLow s1.2 (by omega)
 have gr : ∀ r ∈ (ul.filter (hasU at0)).map (fun b => grw w (usedU b)), ∃ b ∈ ul, hasU at0 b = true ∧ r = ⟨b.f_Hertz - b.f_Width / 2 - w + w / 2 + 1, b.f_Hertz - b.f_Width / 2 + b.f_Width + w / 2⟩ := fun r hr => by
  obtain ⟨b, hb, rfl⟩ := List.mem_map.1 hr
  have hb := List.mem_filter.1 hb
  exact ⟨b, hb.1, hb.2, grw_is w1 w2 (hu b hb.1)⟩
 have glen : ((ul.filter (hasU at0)).map fun b => grw w (usedU b)).length ≤ 400 := by rw [List.length_map]; exact Nat.le_trans (List.length_filter_le _ _) hul
 obtain ⟨J2, g1, g2, g3, g4⟩ := band_joined_is (l := (ul.filter (hasU at0)).map fun b => grw w (usedU b)) (fun r hr => by
   obtain ⟨b, hb, _, rfl⟩ := gr r hr
   have := (hu b hb).h1; have := (hu b hb).h2; have := (hu b hb).w1; have := (hu b hb).w2
   simp only; omega) (fun r hr => by
   obtain ⟨b, hb, _, rfl⟩ := gr r hr
   have := (hu b hb).w1
   simp only; omega) (by omega)
 obtain ⟨x1, x2⟩ := without_can J2 g1 J1 [] j1 can_nil (fun p h => by cases h)
 obtain ⟨q1, q2⟩ := rows_can (permL cls mode at0 [] l) (usedBy ul at0)
 obtain ⟨y1, y2⟩ := shr_cov w1 w2 q1 (perm_low hg cls mode at0 (usedBy ul at0))
 have e : withoutL J2 [] J1 = freeL l ul cls mode w at0 := can_one x1 y1 fun n => by
  rw [Bool.eq_iff_iff, x2]
  show _ ↔ cov (shrL w _) n = true
  rw [y2, show cov [] n = false from rfl, Bool.false_or, Bool.and_eq_true, Bool.not_eq_true', j2, g2, s2]
  have hP : ∀ m, cov C m = cov (permL cls mode at0 [] l) m := fun m => by rw [c1.2]; simp [cov]
  have hG : cov ((ul.filter (hasU at0)).map fun b => grw w (usedU b)) n = false ↔ ∀ m, n - w / 2 ≤ m → m < n - w / 2 + w → cov (usedBy ul at0) m = false := by
   constructor
   ·intro h m m1 m2
    cases hq : cov (usedBy ul at0) m with
    | false => rfl
    | true =>
     obtain ⟨r, hr, r1, r2⟩ := cov_iff.1 hq
     unfold usedBy at hr
     obtain ⟨b, hb, rfl⟩ := List.mem_map.1 hr
     have hb' := List.mem_filter.1 hb
     rw [usedU_is (hu b hb'.1)] at r1 r2
     simp only at r1 r2
     have : cov ((ul.filter (hasU at0)).map fun b => grw w (usedU b)) n = true := cov_iff.2 ⟨_, List.mem_map.2 ⟨b, hb, rfl⟩, by rw [grw_is w1 w2 (hu b hb'.1)]; simp only; omega, by rw [grw_is w1 w2 (hu b hb'.1)]; simp only; omega⟩
     rw [this] at h; cases h
   ·intro h
    cases hq : cov ((ul.filter (hasU at0)).map fun b => grw w (usedU b)) n with
    | false => rfl
    | true =>
     obtain ⟨r, hr, r1, r2⟩ := cov_iff.1 hq
     obtain ⟨b, hb, hb2, rfl⟩ := gr r hr
     simp only at r1 r2
     have hw := (hu b hb).w1
     have : ∃ m, n - w / 2 ≤ m ∧ m < n - w / 2 + w ∧ b.f_Hertz - b.f_Width / 2 ≤ m ∧ m < b.f_Hertz - b.f_Width / 2 + b.f_Width := by
      by_cases hc : n - w / 2 ≤ b.f_Hertz - b.f_Width / 2
      ·exact ⟨b.f_Hertz - b.f_Width / 2, by omega, by omega, by omega, by omega⟩
      ·exact ⟨n - w / 2, by omega, by omega, by omega, by omega⟩
     obtain ⟨m, m1, m2, m3, m4⟩ := this
     have h5 := h m m1 m2
     have : cov (usedBy ul at0) m = true := cov_iff.2 ⟨usedU b, List.mem_map.2 ⟨b, List.mem_filter.2 ⟨hb, hb2⟩, rfl⟩, by rw [usedU_is (hu b hb)]; exact m3, by rw [usedU_is (hu b hb)]; exact m4⟩
     rw [this] at h5; cases h5
  rw [hG]
  constructor
  ·rintro ⟨a, b⟩ m m1 m2
   rw [q2, ← hP, a m m1 m2, b m m1 m2]; rfl
  ·intro h
   refine ⟨fun m m1 m2 => ?_, fun m m1 m2 => ?_⟩
   ·have := h m m1 m2
    rw [q2, Bool.and_eq_true] at this
    rw [hP]; exact this.1
   ·have := h m m1 m2
    rw [q2, Bool.and_eq_true, Bool.not_eq_true'] at this
    exact this.2
 simp only [band_free, band_free_]
 have p2' : ∀ k : List G_Row → Option R, I_band_free.band_permitted l cls mode at0 k = k C := fun k => p2 R k
 have j4' : ∀ k : List G_Row → Option R, I_band_free.band_joined (shrL w C) k = k J1 := fun k => j4 R k
 have g4' : ∀ k : List G_Row → Option R, I_band_free.band_joined ((ul.filter (hasU at0)).map fun b => grw w (usedU b)) k = k J2 := fun k => g4 R k
 have w4' : ∀ k : List G_Row → Option R, I_band_free.band_without J1 J2 k = k (withoutL J2 [] J1) := fun k => band_without_is (by omega) (by omega) R k
 rw [p2', h1, h2, j4', g4', w4', e]
end Go.Am
