/- The plain law, in Lean alone: Z1, Z2, Z3. No condition: lemmas for the claim. -/
import Derived.Test.YtnlblmnoiepeaaaGreatDoorPlS1
import Derived.Test.YtnlblmnoiepeaaaGreatDoorPlB4
import Derived.Test.YtnlblmnoiepeaaaGreatDoorPlK
set_option linter.unusedVariables false
set_option linter.unusedSectionVars false
set_option linter.unusedSimpArgs false
set_option maxRecDepth 100000
namespace Go.Am
open Go Go.Proofs
variable [Fuel]
def keysZ : List (List UInt8) := [[98, 49, 54, 48], [98, 52, 48], [98, 51, 48], [98, 50, 48], []]
theorem keyZI_ok : keysZ.all (fun s => (kit_IsKey s some).isSome) = true := by
 obtain ⟨m, h, rfl⟩ := fuel_is ‹Fuel›
 kernel_rfl
theorem kit_IsKey_Z {s : List UInt8} (h : s ∈ keysZ) (R : Type) (k : Bool → Option R) : kit_IsKey s k = k (keyB s) :=
 nat_bool ok_kit_IsKey.na (args := [.d (.str s)]) (F := @kit_IsKey _ s) (fun _ _ => rfl) (someBool_is (List.all_eq_true.1 keyZI_ok s h)) R k
abbrev Far (x : Int) : Prop := -4503599627370496 ≤ x ∧ x ≤ 4503599627370496
structure FineB (x : G_Band) : Prop where
 key : x.f_Key ∈ keysZ
 low : Far x.f_Low
 high : Far x.f_High
def bands4 : List G_Band := [⟨[98, 49, 54, 48], 1800000, 2000000⟩, ⟨[98, 52, 48], 7000000, 7300000⟩, ⟨[98, 51, 48], 7300000, 10150000⟩, ⟨[98, 50, 48], 14000000, 14350000⟩]
theorem bands4_fine : ∀ x ∈ bands4, FineB x := by
 intro x hx
 simp only [bands4, List.mem_cons, List.not_mem_nil, or_false] at hx
 rcases hx with rfl | rfl | rfl | rfl <;> exact ⟨by decide +kernel, ⟨by decide, by decide⟩, ⟨by decide, by decide⟩⟩
theorem z32z_loop (l : List G_Band) (hl : l.length ≤ 4) : ∀ (xs : List G_Band) (n i : Nat) (s : G_Stream) (out : List G_Band) (b : Int), l.drop i = xs → xs.length < n → SOk b s → b + (xs.length : Int) ≤ 2000000 → out.length ≤ i →
  ∃ (ys : List G_Band) (s' : G_Stream), SOk (b + (xs.length : Int)) s' ∧ ys.Sublist xs ∧ ∀ (R : Type) (e0 : G_Stream → List G_Band → Option R), z32z_L3 I_z32z n (l.length : Int) (i : Int) s l out e0 = e0 s' (out ++ ys)
 | _, 0, _, _, _, _, _, h, _, _, _ => by omega
 | [], n + 1, i, s, out, b, h, _, hs, hb, ho => ⟨[], s, hs.mono (by simp), List.Sublist.slnil, fun R e0 => by rw [z32z_L3, ge_drop h, List.append_nil]; rfl⟩
 | x :: xs, n + 1, i, s, out, b, h, hn, hs, hb, ho => by
  have h' := drop_cons h
  have hn' : xs.length < n := Nat.lt_of_succ_lt_succ (by simpa only [List.length_cons] using hn)
  obtain ⟨f, s1, z1, e1⟩ := z57z_gives hs 8 (by simp only [List.length_cons] at hb; omega) (by omega)
  cases f with
  | true =>
   obtain ⟨ys, s', g1, g2, g4⟩ := z32z_loop l hl xs n (i + 1) s1 out (b + 1) h'.2.2.1 hn' z1 (by simp only [List.length_cons] at hb; omega) (by omega)
   refine ⟨ys, s', g1.mono (by simp; omega), g2.cons x, fun R e0 => ?_⟩
   rw [z32z_L3, lt_drop h]
   simp only [cond_true, inr_drop h, at_drop h, I_z32z, e1, Bool.not_true, cond_false, w64_succ (show i < 4611686018427387904 by omega)]
   exact g4 R e0
  | false =>
   obtain ⟨ys, s', g1, g2, g4⟩ := z32z_loop l hl xs n (i + 1) s1 (out ++ [x]) (b + 1) h'.2.2.1 hn' z1 (by simp only [List.length_cons] at hb; omega) (by simp; omega)
   refine ⟨x :: ys, s', g1.mono (by simp; omega), g2.cons_cons x, fun R e0 => ?_⟩
   rw [z32z_L3, lt_drop h]
   simp only [cond_true, inr_drop h, at_drop h, I_z32z, e1, Bool.not_false, room1 out x 32 (show out.length ≤ 1000000 by omega) (by omega), w64_succ (show i < 4611686018427387904 by omega)]
   have := g4 R e0
   rw [List.append_assoc] at this
   exact this
theorem z32z_gives {b : Int} {s : G_Stream} (hs : SOk b s) (hb : b ≤ 1000000) :
  ∃ (r : List G_Band) (s' : G_Stream), SOk (b + 4) s' ∧ r.Sublist bands4 ∧ ∀ (R : Type) (k : List G_Band → G_Stream → Option R), z32z s k = k r s' := by
 obtain ⟨ys, s', g1, g2, g4⟩ := z32z_loop bands4 (by decide) bands4 NN 0 s [] b rfl (by have := NN_ok; show 4 < NN; omega) hs (by show b + 4 ≤ _; omega) (by simp)
 refine ⟨ys, s', g1, g2, fun R k => ?_⟩
 simp only [z32z, z32z_]
 exact g4 R _
theorem right_fine {r : List G_Band} (h : r.Sublist bands4) : r.length ≤ 4 ∧ ∀ x ∈ r, FineB x := ⟨h.length_le, fun x hx => bands4_fine x (h.subset hx)⟩
def badB (x : G_Band) : Bool := !inB x.f_Low 0 30000000000 || (!inB x.f_High 0 30000000000 || (Int.tmod x.f_Low 1000 != 0 || (Int.tmod x.f_High 1000 != 0 || decide (x.f_High ≤ x.f_Low))))
noncomputable def faultBs : Option G_Band → List G_Band → Int
 | _, [] => 0
 | p, x :: xs => bif !keyB x.f_Key then 5 else bif badB x then 1 else match p with
  | none => faultBs (some x) xs
  | some q => bif decide (x.f_Low < q.f_High) then 7 else faultBs (some x) xs
def dupB : List G_Band → List G_Band → Bool
 | _, [] => false
 | seen, x :: xs => (seen.any fun o => o.f_Key == x.f_Key) || dupB (seen ++ [x]) xs
noncomputable def faultB (d : List G_Band) : Int := bif decide ((d.length : Int) > 30) then 2 else bif faultBs none d != 0 then faultBs none d else bif dupB [] d then 6 else 0
theorem z8z_loop1 (d : List G_Band) (hf : ∀ c ∈ d, FineB c) (hl : d.length ≤ 100000) : ∀ (xs : List G_Band) (n i : Nat) (p : Option G_Band), d.drop i = xs → PrevAt d i p → xs.length < n → ∀ (R : Type) (e0 : List G_Band → Int → Option R) (e1 : List G_Band → Option R),
  z8z_L4 I_z8z n d d (d.length : Int) (i : Int) e0 e1 = bif faultBs p xs != 0 then e0 d (faultBs p xs) else e1 d
 | _, 0, _, _, _, _, h, _, _, _ => by omega
 | [], n + 1, i, p, h, _, _, R, e0, e1 => by rw [z8z_L4, ge_drop h]; rfl
 | c :: cs, n + 1, i, p, h, hp, hn, R, e0, e1 => by
  have h' := drop_cons h
  have hn' : cs.length < n := Nat.lt_of_succ_lt_succ (by simpa only [List.length_cons] using hn)
  have ih := z8z_loop1 d hf hl cs n (i + 1) (some c) h'.2.2.1 (prevAt_next h) hn' R e0 e1
  have hc := hf c (mem_drop h)
  rw [z8z_L4, lt_drop h]
  simp only [I_z8z] at ih
  simp only [cond_true, get_drop h, I_z8z, kit_IsKey_Z hc.key, z44z_is, faultBs, badB, w64_succ (show i < 4611686018427387904 by omega), ih]
  cases keyB c.f_Key with
  | false => rfl
  | true =>
   cases inB c.f_Low 0 30000000000 <;> cases inB c.f_High 0 30000000000 <;> cases Int.tmod c.f_Low 1000 != 0 <;> cases Int.tmod c.f_High 1000 != 0 <;> cases decide (c.f_High ≤ c.f_Low) <;> try rfl
   cases p with
   | none => rw [decide_eq_false (show ¬ ((i : Int) > 0) by unfold PrevAt at hp; omega)]; rfl
   | some q =>
    obtain ⟨h0, ys, hq⟩ := hp
    rw [decide_eq_true (show ((i : Int) > 0) by omega), prev_drop hq h0 (by omega)]
    simp only [Bool.not_true, Bool.not_false, cond_false, cond_true, Bool.or_self]
    cases decide (c.f_Low < q.f_High) <;> rfl
theorem contB_is (d : List G_Band) (hl : d.length ≤ 100000) (x : G_Band) (R : Type) (k : Bool → G_Band → Option R) : z28z d x k = k (d.any fun o => o.f_Key == x.f_Key) x := by
 simp only [z28z, z28z_, I_z28z, li_z14z]
 rw [sIndexF_is _ (fun o : G_Band => o.f_Key == x.f_Key) x d (fun y _ R k => rfl) (by have := NN_ok; omega) (by have := NN_ok; omega)]
 rw [idxI_ge]
theorem take_drop {α : Type} {d xs : List α} {x : α} {i : Nat} (h : d.drop i = x :: xs) : d.take (i + 1) = d.take i ++ [x] := by
 rw [List.take_add_one, (drop_cons h).1]; rfl
theorem z8z_loop2 (d : List G_Band) (hl : d.length ≤ 100000) : ∀ (xs : List G_Band) (n i : Nat), d.drop i = xs → xs.length < n → ∀ (R : Type) (e0 : Int → Option R) (e1 : Option R),
  z8z_L14 I_z8z n d d (d.length : Int) (i : Int) e0 e1 = bif dupB (d.take i) xs then e0 6 else e1
 | _, 0, _, _, h, _, _, _ => by omega
 | [], n + 1, i, h, _, R, e0, e1 => by rw [z8z_L14, ge_drop h]; rfl
 | c :: cs, n + 1, i, h, hn, R, e0, e1 => by
  have h' := drop_cons h
  have hn' : cs.length < n := Nat.lt_of_succ_lt_succ (by simpa only [List.length_cons] using hn)
  have ih := z8z_loop2 d hl cs n (i + 1) h'.2.2.1 hn' R e0 e1
  rw [z8z_L14, lt_drop h]
  simp only [I_z8z] at ih
  simp only [cond_true, get_drop h, I_z8z, w64_succ (show i < 4611686018427387904 by omega), ih, Int.toNat_natCast, contB_is (d.take i) (by rw [List.length_take]; omega), dupB, take_drop h]
  rw [decide_eq_true (show (0 : Int) ≤ (i : Int) by omega), decide_eq_true (show (i : Int) ≤ (d.length : Int) by omega)]
  cases (d.take i).any fun o => o.f_Key == c.f_Key <;> rfl
theorem z8z_is {d : List G_Band} (hf : ∀ c ∈ d, FineB c) (hl : d.length ≤ 100000) (R : Type) (k : Int → Option R) : z8z d k = k (faultB d) := by
 have h1 : ∀ (R : Type) (e0 : List G_Band → Int → Option R) (e1 : List G_Band → Option R), z8z_L4 I_z8z I_z8z.N d d (d.length : Int) 0 e0 e1 = bif faultBs none d != 0 then e0 d (faultBs none d) else e1 d := fun R e0 e1 => z8z_loop1 d hf hl d I_z8z.N 0 none rfl rfl (show d.length < NN by have := NN_ok; omega) R e0 e1
 have h2 : ∀ (R : Type) (e0 : Int → Option R) (e1 : Option R), z8z_L14 I_z8z I_z8z.N d d (d.length : Int) 0 e0 e1 = bif dupB [] d then e0 6 else e1 := fun R e0 e1 => z8z_loop2 d hl d I_z8z.N 0 rfl (show d.length < NN by have := NN_ok; omega) R e0 e1
 simp only [z8z, z8z_, faultB, h1, h2]
 cases decide ((d.length : Int) > 30) <;> cases faultBs none d != 0 <;> cases dupB [] d <;> rfl
def inBand (h : Int) (x : G_Band) : Bool := decide (x.f_Low ≤ h) && decide (h < x.f_High)
def bandI (b : List G_Band) (h : Int) : Int := idxI (inBand h) b
def bandA (b : List G_Band) (h : Int) : List UInt8 := ((b.find? (inBand h)).map (·.f_Key)).getD []
theorem log_At_is {b : List G_Band} (hl : b.length ≤ 100000) (h : Int) (R : Type) (k : Int → Option R) : log_At b h k = k (bandI b h) := by
 simp only [log_At, log_At_, I_log_At, li_z16z, bandI]
 rw [sIndexF_is _ (inBand h) h b (fun y _ R k => by
  simp only [log_At_1, log_At_1_, inBand]
  cases decide (y.f_Low ≤ h) <;> rfl) (by have := NN_ok; omega) (by have := NN_ok; omega)]
end Go.Am
set_option linter.unusedVariables false
set_option linter.unusedSectionVars false
set_option linter.unusedSimpArgs false
set_option maxRecDepth 100000
namespace Go.Am
open Go Go.Proofs
variable [Fuel]
structure FineSp (c : G_Spot) : Prop where
 at1 : Mid c.f_At
 hertz : Mid c.f_Hertz
 call : c.f_Call ∈ callsL
 by1 : c.f_By ∈ callsL
def cmpSp (x y : G_Spot) : Int := orL [cmpI x.f_At y.f_At, cmpI x.f_Hertz y.f_Hertz, Lib.compareBytes x.f_Call y.f_Call, Lib.compareBytes x.f_By y.f_By]
theorem z66z_is (x y : G_Spot) (R : Type) (k : Int → Option R) : z66z x y k = k (cmpSp x y) := by
 simp only [z66z, z66z_, I_z66z, cmpSp, z31z_is, strings_Compare_is]
 rw [z36z_is _ (by simp)]
theorem slices_Compare_twoZ (a b c d : Int) (R : Type) (k : Int → Option R) : z35z [a, b] [c, d] k = k (bif cmpI a c != 0 then cmpI a c else cmpI b d) := by
 obtain ⟨m, e, hm⟩ := NN_succ
 obtain ⟨m, rfl⟩ : ∃ q, m = q + 2 := ⟨m - 2, by omega⟩
 have w1 : w64 (0 + 1) = ((1 : Nat) : Int) := w64_eq (by omega) (by omega)
 have w2 : w64 (((1 : Nat) : Int) + 1) = ((2 : Nat) : Int) := by rw [w64_eq (by omega) (by omega)]; rfl
 have a0 : ∀ {R : Type} (x y : Int) (k : Int → Option R), get_ [x, y] 0 k = k x := fun x y k => get_nat (i := 0) rfl k
 have a1 : ∀ {R : Type} (x y : Int) (k : Int → Option R), get_ [x, y] ((1 : Nat) : Int) k = k y := fun x y k => get_nat (i := 1) rfl k
 have d0 : decide ((0 : Int) < ([a, b].length : Int)) = true := rfl
 have d1 : decide (((1 : Nat) : Int) < ([a, b].length : Int)) = true := rfl
 have d2 : decide (((2 : Nat) : Int) < ([a, b].length : Int)) = false := rfl
 have f0 : decide ((0 : Int) ≥ ([c, d].length : Int)) = false := rfl
 have f1 : decide (((1 : Nat) : Int) ≥ ([c, d].length : Int)) = false := rfl
 have f2 : decide (([a, b].length : Int) < ([c, d].length : Int)) = false := rfl
 simp only [z35z, z35z_]
 rw [show I_z35z.N = m + 2 + 1 from e]
 simp only [z35z_L2, d0, d1, d2, f0, f1, f2, w1, w2, a0, a1, I_z35z, cond_true, cond_false, z31z_is]
 cases h1 : cmpI a c != 0 with
 | true => simp only [cond_true]
 | false =>
  simp only [cond_false]
  cases h2 : cmpI b d != 0 with
  | true => simp only [cond_true]
  | false =>
   have h3 : cmpI b d = 0 := by simpa using h2
   simp only [cond_false, h3]
theorem cmp_Compare_str (a b : List UInt8) (R : Type) (k : Int → Option R) : z63z a b k = k (Lib.compareBytes a b) := by
 simp only [z63z, z63z_, I_z63z, z87z, z87z_, beq_self_eq_true, Bool.not_true, cond_false, bytesLess_is]
 rcases cb_cases a b with h | h | h
 ·rw [h]; rfl
 ·have e := cb_zero a b h
  subst e
  rw [h, beq_self_eq_true]; rfl
 ·have e : (a == b) = false := by
   cases hq : a == b with
   | false => rfl
   | true => have := eq_of_beq hq; subst this; rw [cb_self] at h; cases h
  rw [h, e]; rfl
theorem slices_Compare_twoS (a b c d : List UInt8) (R : Type) (k : Int → Option R) : z27z [a, b] [c, d] k = k (bif Lib.compareBytes a c != 0 then Lib.compareBytes a c else Lib.compareBytes b d) := by
 obtain ⟨m, e, hm⟩ := NN_succ
 obtain ⟨m, rfl⟩ : ∃ q, m = q + 2 := ⟨m - 2, by omega⟩
 have w1 : w64 (0 + 1) = ((1 : Nat) : Int) := w64_eq (by omega) (by omega)
 have w2 : w64 (((1 : Nat) : Int) + 1) = ((2 : Nat) : Int) := by rw [w64_eq (by omega) (by omega)]; rfl
 have a0 : ∀ {R : Type} (x y : List UInt8) (k : List UInt8 → Option R), get_ [x, y] 0 k = k x := fun x y k => get_nat (i := 0) rfl k
 have a1 : ∀ {R : Type} (x y : List UInt8) (k : List UInt8 → Option R), get_ [x, y] ((1 : Nat) : Int) k = k y := fun x y k => get_nat (i := 1) rfl k
 have d0 : decide ((0 : Int) < ([a, b].length : Int)) = true := rfl
 have d1 : decide (((1 : Nat) : Int) < ([a, b].length : Int)) = true := rfl
 have d2 : decide (((2 : Nat) : Int) < ([a, b].length : Int)) = false := rfl
 have f0 : decide ((0 : Int) ≥ ([c, d].length : Int)) = false := rfl
 have f1 : decide (((1 : Nat) : Int) ≥ ([c, d].length : Int)) = false := rfl
 have f2 : decide (([a, b].length : Int) < ([c, d].length : Int)) = false := rfl
 simp only [z27z, z27z_]
 rw [show I_z27z.N = m + 2 + 1 from e]
 simp only [z27z_L2, d0, d1, d2, f0, f1, f2, w1, w2, a0, a1, I_z27z, cond_true, cond_false, cmp_Compare_str]
 cases h1 : Lib.compareBytes a c != 0 with
 | true => simp only [cond_true]
 | false =>
  simp only [cond_false]
  cases h2 : Lib.compareBytes b d != 0 with
  | true => simp only [cond_true]
  | false =>
   have h3 : Lib.compareBytes b d = 0 := by simpa using h2
   simp only [cond_false, h3]
theorem z9z_is (x y : G_Spot) (R : Type) (k : Int → Option R) : z9z x y k = k (cmpSp x y) := by
 simp only [z9z, z9z_, I_z9z, slices_Compare_twoZ, slices_Compare_twoS, cmpSp, orL]
 cases h1 : cmpI x.f_At y.f_At != 0 with
 | true => simp only [cond_true, h1]
 | false =>
  cases h2 : cmpI x.f_Hertz y.f_Hertz != 0 with
  | true => simp only [cond_true, cond_false, h2]
  | false =>
   simp only [cond_false, h2]
   cases h3 : Lib.compareBytes x.f_Call y.f_Call != 0 with
   | true => simp only [cond_true]
   | false =>
    simp only [cond_false]
    cases h4 : Lib.compareBytes x.f_By y.f_By != 0 with
    | true => rfl
    | false =>
     have : Lib.compareBytes x.f_By y.f_By = 0 := by simpa using h4
     rw [this]; rfl
theorem sortS_ord {l : List G_Spot} (hl : l.length ≤ 20) (R : Type) (k : List G_Spot → Option R) : z33z l k = k (sortI cmpSp l) := by
 simp only [z33z, z33z_, I_z33z, li_z4z]
 exact sSta_is cmpSp (fun _ => True) (fun x y _ _ => z9z_is x y) l (fun _ _ => trivial) hl (by have := NN_ok; omega) (by have := NN_ok; omega) _ (fun l a b R k => by rw [li_z5z]) k
theorem compS_is {l : List G_Spot} (hl : l.length ≤ 100000) (R : Type) (k : List G_Spot → Option R) : z23z l k = k (compactP eq_G_Spot l) := by
 rw [li_z23z]
 exact sComp_is eq_G_Spot (fun _ => True) (fun x y _ _ R k => rfl) l (by have := NN_ok; omega) (by have := NN_ok; omega) (fun _ _ => trivial) k
theorem z48z_loop (m : Nat) : ∀ (n i : Nat) (at0 : Int) (s : G_Stream) (out : List G_Spot) (b : Int), m - i < n → i ≤ m → SOk (b + 20 * (i : Int)) s → b ≤ 1000000 → 0 ≤ at0 → at0 ≤ 20 * (i : Int) → out.length = i → (∀ c ∈ out, FineSp c) → m ≤ 600 →
  ∃ (r : List G_Spot) (s' : G_Stream), SOk (b + 20 * (m : Int)) s' ∧ r.length = m ∧ (∀ c ∈ r, FineSp c) ∧ ∀ (R : Type) (e0 : G_Stream → List G_Spot → Option R), z48z_L4 I_z48z n at0 (m : Int) (i : Int) s out e0 = e0 s' r
 | 0, i, _, _, _, _, h, _, _, _, _, _, _, _, _ => by omega
 | n + 1, i, at0, s, out, b, h, hi, hs, hb, h1, h2, ho, hf, hm6 => by
  by_cases hc : i < m
  ·obtain ⟨p, s1, hp, z1, e1⟩ := z60z_gives hs [0, 1, 5, 20] (by omega) (by simp) (by simp)
   obtain ⟨hz, s2, hhz, z2, e2⟩ := z60z_gives z1 [7000000, 7100000, 7299999, 7300000, 14000000, 14010000, 14020000, 14020000, 1800000, 5000000] (by omega) (by simp) (by simp)
   obtain ⟨cl, s3, hcl, z3, e3⟩ := z72z_gives z2 (by omega)
   obtain ⟨bd, s4, hbd, z4, e4⟩ := z42z_gives z3 [[119, 49, 97, 119], [110, 49, 109, 109]] (by omega) (by simp) (by simp)
   obtain ⟨f, s5, z5, e5⟩ := z57z_gives z4 80 (by omega) (by omega)
   simp only [List.mem_cons, List.not_mem_nil, or_false] at hp hhz
   have ea : w64 (at0 + p) = at0 + p := w64_eq (by omega) (by omega)
   have hcard : ∃ (c : G_Spot) (s' : G_Stream), FineSp c ∧ SOk (b + 20 * ((i + 1 : Nat) : Int)) s' ∧ ∀ (R : Type) (e0 : G_Stream → List G_Spot → Option R), z48z_L4 I_z48z (n + 1) at0 (m : Int) (i : Int) s out e0 = z48z_L4 I_z48z n (at0 + p) (m : Int) ((i + 1 : Nat) : Int) s' (out ++ [c]) e0 := by
    cases f with
    | false =>
     refine ⟨⟨at0 + p, hz, cl, bd⟩, s5, ⟨⟨by simp only; omega, by simp only; omega⟩, ⟨by simp only; omega, by simp only; omega⟩, hcl, sub_mem hbd (by decide +kernel)⟩, z5.mono (by omega), fun R e0 => ?_⟩
     rw [z48z_L4]
     simp only [I_z48z, decide_eq_true (show (i : Int) < (m : Int) by omega), cond_true, e1, e2, e3, e4, e5, ea, cond_false, room1 out _ 48 (show out.length ≤ 1000000 by omega) (by omega)]
     rw [w64_succ (by omega)]
    | true =>
     obtain ⟨x1, t1, x11, x12, y1, f1⟩ := Stream_Odd_gives z5 0 100 (by omega) (by omega) (by omega) (by omega) (by omega)
     obtain ⟨x2, t2, x21, x22, y2, f2⟩ := Stream_Odd_gives y1 0 30000000000 (by omega) (by omega) (by omega) (by omega) (by omega)
     obtain ⟨x4, t4, hx4, y4, f4⟩ := z42z_gives y2 [[], [119, 49, 97, 119]] (by omega) (by simp) (by simp)
     refine ⟨⟨x1, x2, cl, x4⟩, t4, ⟨⟨by simp only; omega, by simp only; omega⟩, ⟨by simp only; omega, by simp only; omega⟩, hcl, sub_mem hx4 (by decide +kernel)⟩, y4.mono (by omega), fun R e0 => ?_⟩
     rw [z48z_L4]
     simp only [I_z48z, decide_eq_true (show (i : Int) < (m : Int) by omega), cond_true, e1, e2, e3, e4, e5, ea, f1, f2, f4, room1 out _ 48 (show out.length ≤ 1000000 by omega) (by omega)]
     rw [w64_succ (by omega)]
   obtain ⟨c, s', hcf, zs, hstep⟩ := hcard
   obtain ⟨r, s'', g1, g2, g3, g4⟩ := z48z_loop m n (i + 1) (at0 + p) s' (out ++ [c]) b (by omega) (by omega) zs hb (by omega) (by omega) (by simp [ho]) (fun x hx => by
    rcases List.mem_append.1 hx with h | h
    ·exact hf x h
    ·simp at h; rw [h]; exact hcf) hm6
   exact ⟨r, s'', g1, g2, g3, fun R e0 => by rw [hstep, g4]⟩
  ·refine ⟨out, s, hs.mono (by omega), by omega, hf, fun R e0 => ?_⟩
   rw [z48z_L4, decide_eq_false (by omega)]; rfl
theorem z48z_gives {b : Int} {s : G_Stream} (hs : SOk b s) (hb : b ≤ 1000000) (m : Nat) (hm : m ≤ 20) :
  ∃ (r : List G_Spot) (s' : G_Stream), SOk (b + 20 * (m : Int)) s' ∧ r.length ≤ m ∧ (∀ c ∈ r, FineSp c) ∧ ∀ (R : Type) (k : List G_Spot → G_Stream → Option R), z48z s (m : Int) k = k r s' := by
 obtain ⟨r, s', g1, g2, g3, g4⟩ := z48z_loop m NN 0 0 s [] b (by have := NN_ok; omega) (by omega) (hs.mono (by omega)) hb (by omega) (by omega) rfl (fun c h => by cases h) (by omega)
 have g4' : ∀ (R : Type) (e0 : G_Stream → List G_Spot → Option R), z48z_L4 I_z48z I_z48z.N 0 (m : Int) 0 s [] e0 = e0 s' r := g4
 refine ⟨compactP eq_G_Spot (sortI cmpSp r), s', g1, ?_, fun c h => g3 c (sortI_mem.1 (compactP_sub h)), fun R k => ?_⟩
 ·have := compactP_len eq_G_Spot (sortI cmpSp r)
  have := sortI_length cmpSp r
  omega
 ·simp only [z48z, z48z_, g4']
  simp only [I_z48z, sortS_ord (show r.length ≤ 20 by omega), compS_is (show (sortI cmpSp r).length ≤ 100000 by rw [sortI_length]; omega)]
noncomputable def chkS (c : G_Spot) : Int := bif !momB c.f_At then 1 else bif !inB c.f_Hertz 0 30000000000 then 1 else bif !callB c.f_Call then 3 else bif !callB c.f_By then 3 else 0
noncomputable def faultSs : Option G_Spot → List G_Spot → Int
 | _, [] => 0
 | p, c :: cs => bif chkS c != 0 then chkS c else match p with
  | none => faultSs (some c) cs
  | some q => bif decide (cmpSp q c ≥ 0) then 7 else faultSs (some c) cs
theorem z39z_loop (d : List G_Spot) (hf : ∀ c ∈ d, FineSp c) (hl : d.length ≤ 100000) : ∀ (xs : List G_Spot) (n i : Nat) (p : Option G_Spot), d.drop i = xs → PrevAt d i p → xs.length < n → ∀ (R : Type) (k : Int → Option R),
  z39z_L4 I_z39z n d d (d.length : Int) (i : Int) k (k 0) = k (faultSs p xs)
 | _, 0, _, _, _, _, h, _, _ => by omega
 | [], n + 1, i, p, h, _, _, _, _ => by rw [z39z_L4, ge_drop h]; rfl
 | c :: cs, n + 1, i, p, h, hp, hn, R, k => by
  have h' := drop_cons h
  have ih := z39z_loop d hf hl cs n (i + 1) (some c) h'.2.2.1 (prevAt_next h) (Nat.lt_of_succ_lt_succ (by simpa only [List.length_cons] using hn)) R k
  have hc := hf c (mem_drop h)
  rw [z39z_L4, lt_drop h]
  simp only [I_z39z] at ih
  simp only [cond_true, get_drop h, I_z39z, z55z_is, z44z_is, call_Is_is hc.call, call_Is_is hc.by1, z66z_is, faultSs, chkS, w64_succ (show i < 4611686018427387904 by omega), ih]
  cases momB c.f_At <;> cases inB c.f_Hertz 0 30000000000 <;> cases callB c.f_Call <;> cases callB c.f_By <;> try rfl
  cases p with
  | none => rw [decide_eq_false (show ¬ ((i : Int) > 0) by unfold PrevAt at hp; omega)]; rfl
  | some q =>
   obtain ⟨h0, ys, hq⟩ := hp
   rw [decide_eq_true (show ((i : Int) > 0) by omega), prev_drop hq h0 (by omega)]
   simp only [Bool.not_true, cond_false, cond_true, bne_self_eq_false]
   cases decide (cmpSp q c ≥ 0) <;> rfl
theorem z49z_loop (d : List G_Spot) (hf : ∀ c ∈ d, FineSp c) (hl : d.length ≤ 100000) : ∀ (xs : List G_Spot) (n i : Nat) (p : Option G_Spot), d.drop i = xs → PrevAt d i p → xs.length < n → ∀ (R : Type) (k : Int → Option R),
  z49z_L4 I_z49z n d d (d.length : Int) (i : Int) k (k 0) = k (faultSs p xs)
 | _, 0, _, _, _, _, h, _, _ => by omega
 | [], n + 1, i, p, h, _, _, _, _ => by rw [z49z_L4, ge_drop h]; rfl
 | c :: cs, n + 1, i, p, h, hp, hn, R, k => by
  have h' := drop_cons h
  have ih := z49z_loop d hf hl cs n (i + 1) (some c) h'.2.2.1 (prevAt_next h) (Nat.lt_of_succ_lt_succ (by simpa only [List.length_cons] using hn)) R k
  have hc := hf c (mem_drop h)
  rw [z49z_L4, lt_drop h]
  simp only [I_z49z] at ih
  simp only [cond_true, get_drop h, I_z49z, Q_Moment_is, Q_in_is, Q_Call_is hc.call, Q_Call_is hc.by1, z9z_is, faultSs, chkS, w64_succ (show i < 4611686018427387904 by omega), ih]
  cases momB c.f_At <;> cases inB c.f_Hertz 0 30000000000 <;> cases callB c.f_Call <;> cases callB c.f_By <;> try rfl
  cases p with
  | none => rw [decide_eq_false (show ¬ ((i : Int) > 0) by unfold PrevAt at hp; omega)]; rfl
  | some q =>
   obtain ⟨h0, ys, hq⟩ := hp
   rw [decide_eq_true (show ((i : Int) > 0) by omega), prev_drop hq h0 (by omega)]
   simp only [Bool.not_true, cond_false, cond_true, bne_self_eq_false]
   cases decide (cmpSp q c ≥ 0) <;> rfl
noncomputable def faultS (d : List G_Spot) : Int := bif decide ((d.length : Int) > 2000) then 2 else faultSs none d
theorem z39z_is {d : List G_Spot} (hf : ∀ c ∈ d, FineSp c) (hl : d.length ≤ 100000) (R : Type) (k : Int → Option R) : z39z d k = k (faultS d) := by
 have h : z39z_L4 I_z39z I_z39z.N d d (d.length : Int) 0 k (k 0) = k (faultSs none d) := z39z_loop d hf hl d I_z39z.N 0 none rfl rfl (show d.length < NN by have := NN_ok; omega) R k
 simp only [z39z, z39z_, faultS, h]
 cases decide ((d.length : Int) > 2000) <;> rfl
theorem z49z_is {d : List G_Spot} (hf : ∀ c ∈ d, FineSp c) (hl : d.length ≤ 100000) (R : Type) (k : Int → Option R) : z49z d k = k (faultS d) := by
 have h : z49z_L4 I_z49z I_z49z.N d d (d.length : Int) 0 k (k 0) = k (faultSs none d) := z49z_loop d hf hl d I_z49z.N 0 none rfl rfl (show d.length < NN by have := NN_ok; omega) R k
 simp only [z49z, z49z_, faultS, h]
 cases decide ((d.length : Int) > 2000) <;> rfl
end Go.Am
set_option linter.unusedVariables false
set_option linter.unusedSectionVars false
set_option linter.unusedSimpArgs false
set_option maxRecDepth 100000
namespace Go.Am
open Go Go.Proofs
variable [Fuel]
def cntS (b : List G_Band) (life at0 : Int) (s : G_Spot) : Bool := decide (at0 - life < s.f_At) && (decide (s.f_At ≤ at0) && !decide (bandI b s.f_Hertz < 0))
def keyS (b : List G_Band) (s : G_Spot) : G_band_onBand := ⟨s.f_Call, bandI b s.f_Hertz⟩
def sameS (b : List G_Band) (s o : G_Spot) : Bool := decide (keyS b o = keyS b s)
def heardS (b : List G_Band) (life at0 : Int) (l : List G_Spot) : List G_Spot := heardR (cntS b life at0) (sameS b) l
theorem lk_revS (g : Nat) : @z47z_ g = @sRev G_Spot g := by kernel_rfl
theorem lk_revI (g : Nat) : @z41z_ g = @sRev Int g := by kernel_rfl
theorem revS_is {l : List G_Spot} (hl : l.length ≤ 100000) (R : Type) (k : List G_Spot → Option R) : z47z l k = k l.reverse := by
 show z47z_ NN l k = _
 rw [lk_revS]
 exact sRev_is (by omega) (by have := NN_ok; omega) k
theorem revI_is {l : List Int} (hl : l.length ≤ 100000) (R : Type) (k : List Int → Option R) : z41z l k = k l.reverse := by
 show z41z_ NN l k = _
 rw [lk_revI]
 exact sRev_is (by omega) (by have := NN_ok; omega) k
theorem drop_step {α : Type} {d : List α} {n : Nat} {x : α} (h : d[n]? = some x) : d.drop n = x :: d.drop (n + 1) := by
 obtain ⟨h1, rfl⟩ := List.getElem?_eq_some_iff.1 h
 exact List.drop_eq_getElem_cons h1
theorem heardR_cons {α : Type} (cnt : α → Bool) (same : α → α → Bool) (x : α) (r : List α) : heardR cnt same (x :: r) = bif cnt x && !(r.any fun o => cnt o && same x o) then x :: heardR cnt same r else heardR cnt same r := by
 simp only [heardR]
theorem band_heard_loop (b : List G_Band) (hb : b.length ≤ 100000) (life at0 : Int) (ha : -1000000000000 ≤ at0 ∧ at0 ≤ 1000000000000) (hf : -1000000000000 ≤ life ∧ life ≤ 1000000000000) (d : List G_Spot) (hl : d.length ≤ 100000) : ∀ (n : Nat) (m : List (G_band_onBand × Bool)) (sp : List G_Spot) (bd : List Int), n ≤ d.length →
  sp = (heardS b life at0 (d.drop n)).reverse → bd = sp.map (fun s => bandI b s.f_Hertz) → (∀ w, (mget_band_onBand_bool w m).getD false = (d.drop n).any fun o => cntS b life at0 o && decide (keyS b o = w)) →
  ∃ m', ∀ (R : Type) (e0 : List G_Band → Int → Int → List (G_band_onBand × Bool) → List G_Spot → List Int → Option R), band_heard_L4 I_band_heard n d b life at0 m sp bd e0 = e0 b life at0 m' (heardS b life at0 d).reverse ((heardS b life at0 d).reverse.map (fun s => bandI b s.f_Hertz))
 | 0, m, sp, bd, _, hs, hbd, hm => ⟨m, fun R e0 => by rw [band_heard_L4, hbd, hs]; rfl⟩
 | n + 1, m, sp, bd, hn, hs, hbd, hm => by
  have hx : d[n]? = some d[n] := List.getElem?_eq_getElem (by omega)
  have hd := drop_step hx
  generalize d[n] = x at hx hd
  have hls : sp.length ≤ 100000 := by
   rw [hs, List.length_reverse]
   refine Nat.le_trans (heardR_len _ _ _) ?_
   rw [List.length_drop]; omega
  have hlb : bd.length ≤ 100000 := by rw [hbd, List.length_map]; exact hls
  have hw : w64 (at0 - life) = at0 - life := w64_eq (by omega) (by omega)
  have step : ∀ (c : Bool), cntS b life at0 x = false ∨ ((mget_band_onBand_bool (keyS b x) m).getD false = true) → heardS b life at0 (d.drop n) = heardS b life at0 (d.drop (n + 1)) ∧ ∀ w, (mget_band_onBand_bool w m).getD false = (d.drop n).any fun o => cntS b life at0 o && decide (keyS b o = w) := fun _ hc => by
   rw [hd]
   unfold heardS
   rw [heardR_cons]
   rcases hc with hc | hc
   ·rw [hc]
    refine ⟨rfl, fun w => ?_⟩
    rw [List.any_cons, hc, hm w]; rfl
   ·rw [hm] at hc
    have hany : ((d.drop (n + 1)).any fun o => cntS b life at0 o && sameS b x o) = true := hc
    refine ⟨?_, fun w => ?_⟩
    ·rw [hany]; simp
    ·rw [List.any_cons, hm w]
     cases hq : (cntS b life at0 x && decide (keyS b x = w)) with
     | false => rfl
     | true =>
      simp only [Bool.and_eq_true, decide_eq_true_eq] at hq
      rw [← hq.2, hc]; rfl
  have skip : cntS b life at0 x = false ∨ ((mget_band_onBand_bool (keyS b x) m).getD false = true) → ∃ m', ∀ (R : Type) (e0 : List G_Band → Int → Int → List (G_band_onBand × Bool) → List G_Spot → List Int → Option R), band_heard_L4 I_band_heard n d b life at0 m sp bd e0 = e0 b life at0 m' (heardS b life at0 d).reverse ((heardS b life at0 d).reverse.map (fun s => bandI b s.f_Hertz)) := fun hc => by
   obtain ⟨h1, h2⟩ := step true hc
   exact band_heard_loop b hb life at0 ha hf d hl n m sp bd (by omega) (by rw [h1]; exact hs) hbd h2
  have unf : ∀ (R : Type) (e0 : List G_Band → Int → Int → List (G_band_onBand × Bool) → List G_Spot → List Int → Option R), band_heard_L4 I_band_heard (n + 1) d b life at0 m sp bd e0 = bif cntS b life at0 x && !((mget_band_onBand_bool (keyS b x) m).getD false) then band_heard_L4 I_band_heard n d b life at0 (mset_band_onBand_bool (keyS b x) true m) (sp ++ [x]) (bd ++ [bandI b x.f_Hertz]) e0 else band_heard_L4 I_band_heard n d b life at0 m sp bd e0 := fun R e0 => by
   rw [band_heard_L4, hx]
   simp only [I_band_heard, log_At_is hb, hw, room1 sp x 48 (show sp.length ≤ 1000000 by omega) (by omega), room1 bd (bandI b x.f_Hertz) 8 (show bd.length ≤ 1000000 by omega) (by omega), cond_true, cntS]
   have e1 : decide (at0 - life < x.f_At) = !decide (x.f_At ≤ at0 - life) := by
    rw [Bool.eq_iff_iff]; simp
   have e2 : decide (x.f_At ≤ at0) = !decide (x.f_At > at0) := by
    rw [Bool.eq_iff_iff]; simp
   rw [e1, e2]
   show (bif decide (x.f_At ≤ at0 - life) then _ else bif decide (x.f_At > at0) then _ else bif decide (bandI b x.f_Hertz < 0) then _ else bif (mget_band_onBand_bool (keyS b x) m).getD false then _ else _) = _
   cases decide (x.f_At ≤ at0 - life) <;> cases decide (x.f_At > at0) <;> cases decide (bandI b x.f_Hertz < 0) <;> cases (mget_band_onBand_bool (keyS b x) m).getD false <;> rfl
  cases hc : cntS b life at0 x with
  | false =>
   obtain ⟨m', h⟩ := skip (.inl hc)
   exact ⟨m', fun R e0 => by rw [unf, hc, ← h R e0]; rfl⟩
  | true =>
   cases hg : (mget_band_onBand_bool (keyS b x) m).getD false with
   | true =>
    obtain ⟨m', h⟩ := skip (.inr hg)
    exact ⟨m', fun R e0 => by rw [unf, hc, hg, ← h R e0]; rfl⟩
   | false =>
    have hany : ((d.drop (n + 1)).any fun o => cntS b life at0 o && sameS b x o) = false := by
     have := hm (keyS b x)
     rw [hg] at this
     exact this.symm
    have hh : heardS b life at0 (d.drop n) = x :: heardS b life at0 (d.drop (n + 1)) := by
     rw [hd]
     unfold heardS
     rw [heardR_cons, hc, hany]; rfl
    obtain ⟨m', h⟩ := band_heard_loop b hb life at0 ha hf d hl n (mset_band_onBand_bool (keyS b x) true m) (sp ++ [x]) (bd ++ [bandI b x.f_Hertz]) (by omega) (by rw [hh, hs, List.reverse_cons]) (by rw [hbd, List.map_append]; rfl) (fun w => by
     rw [hd, List.any_cons, hc, lm_get_band_onBand_bool, lm_set_band_onBand_bool, aget_aset keq_band_onBand_is, Bool.true_and]
     have := hm w
     rw [lm_get_band_onBand_bool] at this
     by_cases e : w = keyS b x
     ·rw [(keq_band_onBand_is _ _).2 e, decide_eq_true e.symm]; rfl
     ·have e' : keq_band_onBand w (keyS b x) = false := by
       cases hq : keq_band_onBand w (keyS b x) with
       | false => rfl
       | true => exact absurd ((keq_band_onBand_is _ _).1 hq) e
      rw [e', decide_eq_false (fun h => e h.symm), Bool.false_or]
      exact this)
    exact ⟨m', fun R e0 => by rw [unf, hc, hg, ← h R e0]; rfl⟩
theorem slices_Backward_is (l : List G_Spot) (R : Type) (k : List G_Spot → Option R) : z77z l k = k l := rfl
theorem heardS_len (b : List G_Band) (life at0 : Int) (l : List G_Spot) : (heardS b life at0 l).length ≤ l.length := heardR_len _ _ l
theorem raw_band_heard_is {b : List G_Band} (hb : b.length ≤ 100000) {life at0 : Int} (ha : -1000000000000 ≤ at0 ∧ at0 ≤ 1000000000000) (hf : -1000000000000 ≤ life ∧ life ≤ 1000000000000) {l : List G_Spot} (hl : l.length ≤ 1000) (R : Type) (k : List G_Spot → List Int → Option R) :
  raw_band_heard I_band_heard b l life at0 k = k (heardS b life at0 l) ((heardS b life at0 l).map (fun s => bandI b s.f_Hertz)) := by
 obtain ⟨m', h⟩ := band_heard_loop b hb life at0 ha hf l (by omega) l.length [] [] [] (Nat.le_refl _) (by rw [List.drop_length]; rfl) rfl (fun w => by rw [List.drop_length, lm_get_band_onBand_bool]; rfl)
 have hle := heardS_len b life at0 l
 simp only [I_band_heard] at h
 simp only [raw_band_heard, I_band_heard, slices_Backward_is, decide_eq_true (show l.length < 4611686018427387904 by omega), cond_true, h, revS_is (show (heardS b life at0 l).reverse.length ≤ 100000 by rw [List.length_reverse]; omega), revI_is (show ((heardS b life at0 l).reverse.map (fun s => bandI b s.f_Hertz)).length ≤ 100000 by rw [List.length_map, List.length_reverse]; omega), List.reverse_reverse, ← List.map_reverse]
theorem band_heard_is {b : List G_Band} (hb : b.length ≤ 100000) {life at0 : Int} (ha : -1000000000000 ≤ at0 ∧ at0 ≤ 1000000000000) (hf : -1000000000000 ≤ life ∧ life ≤ 1000000000000) {l : List G_Spot} (hl : l.length ≤ 1000) (R : Type) (k : List G_Spot → List Int → Option R) :
  band_heard b l life at0 k = k (heardS b life at0 l) ((heardS b life at0 l).map (fun s => bandI b s.f_Hertz)) := by
 show (raw_band_heard I_band_heard b l life at0 (fun z0 z1 => some (inj0_band_heard (z0, z1)))).bind _ = _
 rw [raw_band_heard_is hb ha hf hl]
 rfl
def lifeB (life at0 : Int) : Bool := inB life 1 86400000 && momB at0
theorem z74z_is (life at0 hertz : Int) (R : Type) (k : Int → Option R) : z74z life at0 hertz k = k (bif lifeB life at0 && inB hertz 0 30000000000 then 0 else 1) := by
 simp only [z74z, z74z_, I_z74z, z44z_is, z55z_is, lifeB]
 cases inB life 1 86400000 <;> cases momB at0 <;> cases inB hertz 0 30000000000 <;> rfl
theorem lifeB_is {life at0 : Int} (h : lifeB life at0 = true) : (1 ≤ life ∧ life ≤ 86400000) ∧ 0 ≤ at0 ∧ at0 ≤ 345686399999 := by
 unfold lifeB momB at h
 rw [Bool.and_eq_true, inB_is, inB_is] at h
 exact h
theorem z73z_is {b : List G_Band} {l : List G_Spot} (hb : ∀ c ∈ b, FineB c) (hl : ∀ c ∈ l, FineSp c) (h1 : b.length ≤ 100000) (h2 : l.length ≤ 100000) (R : Type) (k : Int → Option R) : z73z b l k = k (orL [faultB b, faultS l]) := by
 simp only [z73z, z73z_, I_z73z, z8z_is hb h1, z39z_is hl h2, orL]
 cases faultB b != 0 with
 | true => rfl
 | false =>
  cases h : faultS l != 0 with
  | true => rfl
  | false =>
   have : faultS l = 0 := by simpa using h
   rw [this]; rfl
end Go.Am
