/- The plain law, in Lean alone: Z4, Z5. No condition: lemmas for the claim. -/
import Derived.Test.YtkcbebmbmffkjaaGreatDoorPlZ3
import Derived.Test.YtkcbebmbmffkjaaGreatDoorPlS1
import Derived.Test.YtkcbebmbmffkjaaGreatDoorPlR4
set_option linter.unusedVariables false
set_option linter.unusedSectionVars false
set_option linter.unusedSimpArgs false
set_option maxRecDepth 100000
namespace Go.Am
open Go Go.Proofs
variable [Fuel]
theorem itoaZ_is {n : Int} (h0 : -9223372036854775808 ≤ n) (h1 : n ≤ 9223372036854775807) (R : Type) (k : List UInt8 → Option R) : strconv_Itoa n k = k (Lib.itoa n) := by
 show X_itoa n k = _
 unfold X_itoa in64
 rw [decide_eq_true h0, decide_eq_true h1]; rfl
def upTo (n : Nat) : List Int := (List.range n).map fun (i : Nat) => (i : Int)
theorem upTo_succ (n : Nat) : upTo (n + 1) = upTo n ++ [(n : Int)] := by
 unfold upTo
 rw [List.range_succ, List.map_append]; rfl
theorem upTo_len (n : Nat) : (upTo n).length = n := by simp [upTo]
theorem upTo_mem {n : Nat} {x : Int} : x ∈ upTo n ↔ 0 ≤ x ∧ x < (n : Int) := by
 unfold upTo
 rw [List.mem_map]
 constructor
 ·rintro ⟨i, hi, rfl⟩
  have := List.mem_range.1 hi
  omega
 ·rintro ⟨h1, h2⟩
  exact ⟨x.toNat, List.mem_range.2 (show x.toNat < n by omega), show ((x.toNat : Nat) : Int) = x by omega⟩
def cntL (bs : List Int) (i : Int) : Int := ((bs.filter fun x => x == i).length : Int)
theorem cntL_app (bs : List Int) (x i : Int) : cntL (bs ++ [x]) i = cntL bs i + (bif x == i then 1 else 0) := by
 unfold cntL
 rw [List.filter_append, List.length_append]
 cases h : x == i <;> simp [h]
theorem cntL_le (bs : List Int) (i : Int) : 0 ≤ cntL bs i ∧ cntL bs i ≤ (bs.length : Int) := by
 unfold cntL
 have := List.length_filter_le (fun x => x == i) bs
 omega
def cnts (n : Nat) (bs : List Int) : List Int := (upTo n).map (cntL bs)
theorem cnts_len (n : Nat) (bs : List Int) : (cnts n bs).length = n := by simp [cnts, upTo]
theorem cnts_get {n i : Nat} (bs : List Int) (h : i < n) : (cnts n bs)[i]? = some (cntL bs (i : Int)) := by
 simp [cnts, upTo, h]
theorem cnts_nil (n : Nat) : List.replicate n (0 : Int) = cnts n [] := by
 apply List.ext_getElem?
 intro i
 by_cases h : i < n
 ·rw [cnts_get _ h]; simp [h, cntL]
 ·rw [List.getElem?_eq_none (by simp; omega), List.getElem?_eq_none (by rw [cnts_len]; omega)]
theorem cnts_set {n j : Nat} (bs : List Int) (h : j < n) : (cnts n bs).set j (cntL bs (j : Int) + 1) = cnts n (bs ++ [(j : Int)]) := by
 apply List.ext_getElem?
 intro i
 by_cases hi : i < n
 ·rw [cnts_get _ hi, cntL_app]
  by_cases e : j = i
  ·subst e
   rw [List.getElem?_set_self (by rw [cnts_len]; exact hi)]
   simp
  ·rw [List.getElem?_set_ne e, cnts_get _ hi]
   have : ((j : Int) == (i : Int)) = false := by simp; omega
   rw [this]; simp
 ·rw [List.getElem?_eq_none (by rw [List.length_set, cnts_len]; omega), List.getElem?_eq_none (by rw [cnts_len]; omega)]
theorem Busiest_loop11 (b : List G_Band) (hb : b.length ≤ 100000) (r8 many : List Int) : ∀ (m n i : Nat), m + i = b.length → m < n → ∀ (R : Type) (e0 : List G_Band → List Int → List Int → List Int → Option R),
  z3z_L11 I_z3z n b (b.length : Int) (i : Int) r8 (upTo i) many e0 = e0 b r8 (upTo b.length) many
 | _, 0, _, _, h, _, _ => by omega
 | 0, n + 1, i, h, _, R, e0 => by
  have : i = b.length := by omega
  subst this
  rw [z3z_L11, decide_eq_false (by omega)]; rfl
 | m + 1, n + 1, i, h, hn, R, e0 => by
  have ih := Busiest_loop11 b hb r8 many m n (i + 1) (by omega) (by omega) R e0
  have hr := room1 (upTo i) (i : Int) 8 (by rw [upTo_len]; omega) (by omega)
  rw [z3z_L11, decide_eq_true (by omega), hr, w64_succ (by omega), ← upTo_succ]
  exact ih
theorem Busiest_loop16 (b : List G_Band) (hb : b.length ≤ 100000) (order : List Int) (d : List Int) (hd : ∀ x ∈ d, 0 ≤ x ∧ x < (b.length : Int)) (hl : d.length ≤ 100000) : ∀ (xs : List Int) (n i : Nat), d.drop i = xs → xs.length < n → ∀ (R : Type) (e0 : List G_Band → List Int → List Int → Option R),
  z3z_L16 I_z3z n b (d.length : Int) (i : Int) d order (cnts b.length (d.take i)) e0 = e0 b order (cnts b.length d)
 | _, 0, _, _, h, _, _ => by omega
 | [], n + 1, i, h, _, R, e0 => by
  have := drop_nil h
  rw [z3z_L16, ge_drop h, List.take_of_length_le this]; rfl
 | x :: xs, n + 1, i, h, hn, R, e0 => by
  have h' := drop_cons h
  obtain ⟨hx0, hx1⟩ := hd x (mem_drop h)
  obtain ⟨j, rfl⟩ : ∃ j : Nat, x = (j : Int) := ⟨x.toNat, by omega⟩
  have ih := Busiest_loop16 b hb order d hd hl xs n (i + 1) h'.2.2.1 (Nat.lt_of_succ_lt_succ (by simpa only [List.length_cons] using hn)) R e0
  have hj : j < b.length := by omega
  have hlen : j < (cnts b.length (d.take i)).length := by rw [cnts_len]; exact hj
  have hget := cnts_get (d.take i) hj
  have hle := cntL_le (d.take i) (j : Int)
  have htl : (d.take i).length ≤ 100000 := by rw [List.length_take]; omega
  have hs := cnts_set (d.take i) hj
  rw [← take_drop h] at hs
  rw [z3z_L16, lt_drop h, cond_true, inr_drop h, at_drop h, inr_nat hlen, at_nat hget, inr_nat hlen, at_nat hget, w64_eq (x := cntL (d.take i) (j : Int) + 1) (by omega) (by omega), set_nat, hs, w64_succ (by omega)]
  exact ih
def cmpBy (m : List Int) (x y : Int) : Int := w64 ((m[y.toNat]?).getD 0 - (m[x.toNat]?).getD 0)
theorem Busiest_1_is {m : List Int} {x y : Int} (hx : 0 ≤ x ∧ x < (m.length : Int)) (hy : 0 ≤ y ∧ y < (m.length : Int)) (R : Type) (k : Int → List Int → Option R) : z83z x y m k = k (cmpBy m x y) m := by
 obtain ⟨i, rfl⟩ : ∃ i : Nat, x = (i : Int) := ⟨x.toNat, by omega⟩
 obtain ⟨j, rfl⟩ : ∃ j : Nat, y = (j : Int) := ⟨y.toNat, by omega⟩
 have hi : i < m.length := by omega
 have hj : j < m.length := by omega
 simp only [z83z, z83z_, cmpBy, Int.toNat_natCast, List.getElem?_eq_getElem hi, List.getElem?_eq_getElem hj, Option.getD_some, inr_nat hi, inr_nat hj]
 rw [at_nat (List.getElem?_eq_getElem hj), at_nat (List.getElem?_eq_getElem hi)]
theorem lk_insBy (g : C_z5z) : @z5z_ g = @sInsS Int (List Int) g.N g.z83z := by kernel_rfl
theorem lk_staBy (g : C_z2z) : @z2z_ g = @sStaS Int (List Int) g.N g.z5z := by kernel_rfl
theorem sortBy_is {m l : List Int} (hS : ∀ y ∈ l, 0 ≤ y ∧ y < (m.length : Int)) (hl : l.length ≤ 20) (R : Type) (k : List Int → List Int → Option R) : z30z l m k = k (sortI (cmpBy m) l) m := by
 simp only [z30z, z30z_, I_z30z]
 show z2z_ I_z2z l (l.length : Int) m _ = _
 rw [lk_staBy]
 exact sStaS_is (N := NN) (cmpBy m) (fun y => 0 ≤ y ∧ y < (m.length : Int)) m l hS hl (by have := NN_ok; omega) (by have := NN_ok; omega) _ (fun l a b R k hl => by
  show z5z_ I_z5z l a b m _ = _
  rw [lk_insBy]
  exact sInsS_is (fun x y hx hy R k => Busiest_1_is hx hy R k) NN hl R k) k
def pairB (b : List G_Band) (m : List Int) (i : Int) : G_Pair := ⟨((b[i.toNat]?).map (·.f_Key)).getD [], Lib.itoa ((m[i.toNat]?).getD 0)⟩
theorem Busiest_loop23 (b : List G_Band) (m : List Int) (hm : m.length = b.length) (hv : ∀ x ∈ m, 0 ≤ x ∧ x ≤ 1000000) (d : List Int) (hd : ∀ x ∈ d, 0 ≤ x ∧ x < (b.length : Int)) (hl : d.length ≤ 100000) : ∀ (xs : List Int) (n i : Nat) (out : List G_Pair), d.drop i = xs → xs.length < n → out.length ≤ i → ∀ (R : Type) (e0 : List G_Pair → Option R),
  z3z_L23 I_z3z n b (d.length : Int) (i : Int) d out m e0 = e0 (out ++ xs.map (pairB b m))
 | _, 0, _, _, _, h, _, _, _ => by omega
 | [], n + 1, i, out, h, _, _, R, e0 => by rw [z3z_L23, ge_drop h, List.map_nil, List.append_nil]; rfl
 | x :: xs, n + 1, i, out, h, hn, ho, R, e0 => by
  have h' := drop_cons h
  obtain ⟨hx0, hx1⟩ := hd x (mem_drop h)
  obtain ⟨j, rfl⟩ : ∃ j : Nat, x = (j : Int) := ⟨x.toNat, by omega⟩
  have hj : j < b.length := by omega
  have hjm : j < m.length := by omega
  have hmv := hv m[j] (List.getElem_mem hjm)
  have gb := List.getElem?_eq_getElem hj
  have gm := List.getElem?_eq_getElem hjm
  have hp : pairB b m (j : Int) = ⟨b[j].f_Key, Lib.itoa m[j]⟩ := by
   unfold pairB
   rw [Int.toNat_natCast, gb, gm]; rfl
  have ih := Busiest_loop23 b m hm hv d hd hl xs n (i + 1) (out ++ [pairB b m (j : Int)]) h'.2.2.1 (Nat.lt_of_succ_lt_succ (by simpa only [List.length_cons] using hn)) (by simp; omega) R e0
  rw [z3z_L23, lt_drop h, cond_true, inr_drop h, at_drop h, get_nat gb, inr_nat hjm, at_nat gm]
  simp only [I_z3z] at ih
  simp only [I_z3z, itoaZ_is (show -9223372036854775808 ≤ m[j] by omega) (show m[j] ≤ 9223372036854775807 by omega), room1 out _ 32 (show out.length ≤ 1000000 by omega) (by omega), cond_true, w64_succ (show i < 4611686018427387904 by omega), ← hp, ih, List.map_cons, List.append_assoc]
  rfl
def bandsOf (b : List G_Band) (l : List G_Spot) : List Int := l.map fun s => bandI b s.f_Hertz
def busyB (b : List G_Band) (h : List G_Spot) : List G_Pair := (sortI (cmpBy (cnts b.length (bandsOf b h))) (upTo b.length)).map (pairB b (cnts b.length (bandsOf b h)))
theorem heardS_band {b : List G_Band} {life at0 : Int} {l : List G_Spot} {s : G_Spot} (h : s ∈ heardS b life at0 l) : s ∈ l ∧ cntS b life at0 s = true := heardR_sub h
theorem cntS_band {b : List G_Band} {life at0 : Int} {s : G_Spot} (h : cntS b life at0 s = true) : ¬ bandI b s.f_Hertz < 0 := fun hn => by
 unfold cntS at h
 rw [decide_eq_true hn] at h
 simp at h
theorem bandI_lt {b : List G_Band} {x : Int} (h : ¬ bandI b x < 0) : 0 ≤ bandI b x ∧ bandI b x < (b.length : Int) := by
 unfold bandI at *
 rcases idxI_cases (inBand x) b with ⟨e1, _⟩ | ⟨i, y, e1, e2, _⟩
 ·rw [e1] at h; omega
 ·obtain ⟨h1, _⟩ := List.getElem?_eq_some_iff.1 e2
  rw [e1]; omega
theorem z3z_is {b : List G_Band} {l : List G_Spot} (hb : ∀ c ∈ b, FineB c) (hl : ∀ c ∈ l, FineS c) (h1 : b.length ≤ 20) (h2 : l.length ≤ 1000) (life at0 : Int) (R : Type) (k : List G_Pair → Int → Option R) :
  z3z b l life at0 k = bif orL [faultB b, faultS l, bif lifeB life at0 then 0 else 1] != 0 then k [] (orL [faultB b, faultS l, bif lifeB life at0 then 0 else 1]) else k (busyB b (heardS b life at0 l)) 0 := by
 simp only [z3z, z3z_, I_z3z, z70z_is hb hl (show b.length ≤ 100000 by omega) (show l.length ≤ 100000 by omega), z69z_is, show inB 0 0 30000000000 = true from rfl, Bool.and_true, orL]
 cases q1 : faultB b != 0 with
 | true => simp only [cond_true, q1]
 | false =>
  simp only [cond_false]
  cases q2 : faultS l != 0 with
  | true => simp only [cond_true, q2]
  | false =>
   simp only [cond_false, bne_self_eq_false]
   cases q3 : lifeB life at0 with
   | false => rfl
   | true =>
    obtain ⟨a1, a2⟩ := lifeB_is q3
    have hbs : ∀ x ∈ bandsOf b (heardS b life at0 l), 0 ≤ x ∧ x < (b.length : Int) := fun x hx => by
     obtain ⟨s, hs, rfl⟩ := List.mem_map.1 hx
     exact bandI_lt (cntS_band (heardS_band hs).2)
    have hle := heardS_len b life at0 l
    have hll : (bandsOf b (heardS b life at0 l)).length ≤ 1000 := by unfold bandsOf; rw [List.length_map]; omega
    have hso : ∀ y ∈ upTo b.length, 0 ≤ y ∧ y < ((cnts b.length (bandsOf b (heardS b life at0 l))).length : Int) := fun y hy => by
     rw [cnts_len]; exact upTo_mem.1 hy
    have e11 : ∀ (R : Type) (e0 : List G_Band → List Int → List Int → List Int → Option R), z3z_L11 I_z3z NN b (b.length : Int) 0 (bandsOf b (heardS b life at0 l)) [] (List.replicate b.length 0) e0 = e0 b (bandsOf b (heardS b life at0 l)) (upTo b.length) (List.replicate b.length 0) := fun R e0 =>
     Busiest_loop11 b (by omega) _ _ b.length NN 0 rfl (by have := NN_ok; omega) R e0
    have e16 : ∀ (R : Type) (e0 : List G_Band → List Int → List Int → Option R), z3z_L16 I_z3z NN b ((bandsOf b (heardS b life at0 l)).length : Int) 0 (bandsOf b (heardS b life at0 l)) (upTo b.length) (List.replicate b.length 0) e0 = e0 b (upTo b.length) (cnts b.length (bandsOf b (heardS b life at0 l))) := fun R e0 => by
     rw [cnts_nil]
     exact Busiest_loop16 b (by omega) (upTo b.length) (bandsOf b (heardS b life at0 l)) hbs (by omega) (bandsOf b (heardS b life at0 l)) NN 0 rfl (by have := NN_ok; omega) R e0
    have e23 : ∀ (R : Type) (e0 : List G_Pair → Option R), z3z_L23 I_z3z NN b ((sortI (cmpBy (cnts b.length (bandsOf b (heardS b life at0 l)))) (upTo b.length)).length : Int) 0 (sortI (cmpBy (cnts b.length (bandsOf b (heardS b life at0 l)))) (upTo b.length)) [] (cnts b.length (bandsOf b (heardS b life at0 l))) e0 = e0 (busyB b (heardS b life at0 l)) := fun R e0 => by
     have := Busiest_loop23 b (cnts b.length (bandsOf b (heardS b life at0 l))) (cnts_len _ _) (fun x hx => by
      obtain ⟨i, hi, rfl⟩ := List.mem_map.1 hx
      have := cntL_le (bandsOf b (heardS b life at0 l)) i
      omega) (sortI (cmpBy (cnts b.length (bandsOf b (heardS b life at0 l)))) (upTo b.length)) (fun x hx => upTo_mem.1 (sortI_mem.1 hx)) (by rw [sortI_length, upTo_len]; omega) (sortI (cmpBy (cnts b.length (bandsOf b (heardS b life at0 l)))) (upTo b.length)) NN 0 [] rfl (by rw [sortI_length, upTo_len]; have := NN_ok; omega) (by simp) R e0
     rw [List.nil_append] at this
     exact this
    simp only [I_z3z] at e11 e16 e23
    simp only [cond_true, bne_self_eq_false, cond_false, band_heard_is (show b.length ≤ 100000 by omega) (life := life) (at0 := at0) ⟨by omega, by omega⟩ ⟨by omega, by omega⟩ h2]
    rw [decide_eq_true (show (0 : Int) ≤ (b.length : Int) by omega), decide_eq_true (show (b.length : Int) ≤ (b.length : Int) by omega), decide_eq_true (show (b.length : Int) * (8 : Nat) ≤ 140737488355328 by omega)]
    simp only [Bool.true_and, cond_true, show decide ((0 : Int) ≤ 0) = true from rfl, show (0 : Int).toNat = 0 from rfl, Int.toNat_natCast, List.replicate_zero]
    refine (e11 R _).trans ?_
    refine (e16 R _).trans ?_
    refine (sortBy_is hso (by rw [upTo_len]; exact h1) R _).trans ?_
    exact e23 R _
end Go.Am
set_option linter.unusedVariables false
set_option linter.unusedSectionVars false
set_option linter.unusedSimpArgs false
set_option maxRecDepth 100000
namespace Go.Am
open Go Go.Proofs
variable [Fuel]
def cntA (b : List G_Band) (h : List G_Spot) (s : List UInt8) : Int := ((h.filter fun x => bandA b x.f_Hertz == s).length : Int)
theorem cntA_app (b : List G_Band) (h : List G_Spot) (x : G_Spot) (s : List UInt8) : cntA b (h ++ [x]) s = cntA b h s + (bif bandA b x.f_Hertz == s then 1 else 0) := by
 unfold cntA
 rw [List.filter_append, List.length_append]
 cases hq : bandA b x.f_Hertz == s <;> simp [hq]
theorem cntA_le (b : List G_Band) (h : List G_Spot) (s : List UInt8) : 0 ≤ cntA b h s ∧ cntA b h s ≤ (h.length : Int) := by
 unfold cntA
 have := List.length_filter_le (fun x => bandA b x.f_Hertz == s) h
 omega
theorem BusiestOf_loop3 (b : List G_Band) (hb : b.length ≤ 100000) (d : List G_Spot) (hl : d.length ≤ 100000) : ∀ (xs : List G_Spot) (n i : Nat) (m : List (List UInt8 × Int)), d.drop i = xs → xs.length < n → (∀ s, (mget_string_int s m).getD 0 = cntA b (d.take i) s) →
  ∃ m', (∀ s, (mget_string_int s m').getD 0 = cntA b d s) ∧ ∀ (R : Type) (e0 : List G_Band → List (List UInt8 × Int) → Option R), z9z_L3 I_z9z n b (d.length : Int) (i : Int) m d e0 = e0 b m'
 | _, 0, _, _, _, h, _ => by omega
 | [], n + 1, i, m, h, _, hm => ⟨m, fun s => by rw [hm s, List.take_of_length_le (drop_nil h)], fun R e0 => by rw [z9z_L3, ge_drop h]; rfl⟩
 | x :: xs, n + 1, i, m, h, hn, hm => by
  have h' := drop_cons h
  have hle := cntA_le b (d.take i) (bandA b x.f_Hertz)
  have htl : (d.take i).length ≤ 100000 := by rw [List.length_take]; omega
  have hw : w64 ((mget_string_int (bandA b x.f_Hertz) m).getD 0 + 1) = cntA b (d.take i) (bandA b x.f_Hertz) + 1 := by rw [hm, w64_eq (by omega) (by omega)]
  obtain ⟨m', g1, g2⟩ := BusiestOf_loop3 b hb d hl xs n (i + 1) (mset_string_int (bandA b x.f_Hertz) (cntA b (d.take i) (bandA b x.f_Hertz) + 1) m) h'.2.2.1 (Nat.lt_of_succ_lt_succ (by simpa only [List.length_cons] using hn)) (fun s => by
   rw [take_drop h, cntA_app, lm_get_string_int, lm_set_string_int, aget_aset keq_string_is]
   have := hm s
   rw [lm_get_string_int] at this
   by_cases e : s = bandA b x.f_Hertz
   ·rw [(keq_string_is _ _).2 e, e]; simp
   ·have e1 : keq_string s (bandA b x.f_Hertz) = false := by
     cases hq : keq_string s (bandA b x.f_Hertz) with
     | false => rfl
     | true => exact absurd ((keq_string_is _ _).1 hq) e
    have e2 : (bandA b x.f_Hertz == s) = false := by simpa using fun h => e h.symm
    rw [e1, e2, cond_false, cond_false, Int.add_zero]
    exact this)
  refine ⟨m', g1, fun R e0 => ?_⟩
  rw [z9z_L3, lt_drop h]
  simp only [I_z9z] at g2
  simp only [cond_true, inr_drop h, at_drop h, I_z9z, Q_BandAt_is hb, hw, w64_succ (show i < 4611686018427387904 by omega), g2]
def pairA (C : List UInt8 → Int) (x : G_Band) : G_Pair := ⟨x.f_Key, Lib.itoa (C x.f_Key)⟩
theorem BusiestOf_loop9 (d : List G_Band) (hl : d.length ≤ 100000) (m : List (List UInt8 × Int)) (C : List UInt8 → Int) (hm : ∀ s, (mget_string_int s m).getD 0 = C s) (hC : ∀ s, 0 ≤ C s ∧ C s ≤ 1000000) : ∀ (xs : List G_Band) (n i : Nat) (out : List G_Pair), d.drop i = xs → xs.length < n → out.length ≤ i → ∀ (R : Type) (e0 : List (List UInt8 × Int) → List G_Pair → Option R),
  z9z_L9 I_z9z n d (d.length : Int) (i : Int) m out e0 = e0 m (out ++ xs.map (pairA C))
 | _, 0, _, _, _, h, _, _, _ => by omega
 | [], n + 1, i, out, h, _, _, R, e0 => by rw [z9z_L9, ge_drop h, List.map_nil, List.append_nil]; rfl
 | x :: xs, n + 1, i, out, h, hn, ho, R, e0 => by
  have h' := drop_cons h
  have hv := hC x.f_Key
  have ih := BusiestOf_loop9 d hl m C hm hC xs n (i + 1) (out ++ [pairA C x]) h'.2.2.1 (Nat.lt_of_succ_lt_succ (by simpa only [List.length_cons] using hn)) (by simp; omega) R e0
  rw [z9z_L9, lt_drop h]
  simp only [I_z9z] at ih
  simp only [cond_true, get_drop h, I_z9z, hm, itoaZ_is (show -9223372036854775808 ≤ C x.f_Key by omega) (show C x.f_Key ≤ 9223372036854775807 by omega), room1 out _ 32 (show out.length ≤ 1000000 by omega) (by omega), w64_succ (show i < 4611686018427387904 by omega)]
  refine Eq.trans ?_ (ih.trans ?_)
  ·rfl
  ·rw [List.map_cons, List.append_assoc]; rfl
def cmpA (C : List UInt8 → Int) (x y : G_Pair) : Int := sgn (w64 (C y.f_Name - C x.f_Name))
theorem BusiestOf_1_is {m : List (List UInt8 × Int)} {C : List UInt8 → Int} (hm : ∀ s, (mget_string_int s m).getD 0 = C s) (x y : G_Pair) (R : Type) (k : Int → List (List UInt8 × Int) → Option R) : z12z x y m k = k (cmpA C x y) m := by
 simp only [z12z, z12z_, I_z12z, Q_sign_is, hm, cmpA]
theorem lk_insA (g : C_z7z) : @z7z_ g = @sInsS G_Pair (List (List UInt8 × Int)) g.N g.z12z := by kernel_rfl
theorem lk_staA (g : C_z4z) : @z4z_ g = @sStaS G_Pair (List (List UInt8 × Int)) g.N g.z7z := by kernel_rfl
theorem sortA_is {m : List (List UInt8 × Int)} {C : List UInt8 → Int} (hm : ∀ s, (mget_string_int s m).getD 0 = C s) {l : List G_Pair} (hl : l.length ≤ 20) (R : Type) (k : List G_Pair → List (List UInt8 × Int) → Option R) : z36z l m k = k (sortI (cmpA C) l) m := by
 simp only [z36z, z36z_, I_z36z]
 show z4z_ I_z4z l (l.length : Int) m _ = _
 rw [lk_staA]
 exact sStaS_is (N := NN) (cmpA C) (fun _ => True) m l (fun _ _ => trivial) hl (by have := NN_ok; omega) (by have := NN_ok; omega) _ (fun l a b R k hl => by
  show z7z_ I_z7z l a b m _ = _
  rw [lk_insA]
  exact sInsS_is (S := fun _ => True) (fun x y _ _ R k => BusiestOf_1_is hm x y R k) NN hl R k) k
theorem bandA_key {b : List G_Band} (hr : faultB b = 0) {j : Nat} {x : G_Band} (hj : b[j]? = some x) {h : Int} (hh : ¬ bandI b h < 0) : (bandA b h == x.f_Key) = (bandI b h == (j : Int)) := by
 obtain ⟨h1, h2⟩ := faultB_right hr
 unfold bandI at hh
 unfold bandI bandA
 rcases idxI_cases (inBand h) b with ⟨e1, e2⟩ | ⟨i, u, e1, e2, e3, e4⟩
 ·rw [e1] at hh; omega
 ·rw [e1, e4]
  simp only [Option.map_some, Option.getD_some]
  rw [Bool.eq_iff_iff, beq_iff_eq, beq_iff_eq]
  constructor
  ·intro e
   rw [key_one h2 e2 hj e]
  ·intro e
   have : i = j := by omega
   subst this
   rw [e2] at hj
   rw [Option.some.inj hj]
theorem cnt_both {b : List G_Band} (hr : faultB b = 0) {h : List G_Spot} (hh : ∀ s ∈ h, ¬ bandI b s.f_Hertz < 0) {j : Nat} {x : G_Band} (hj : b[j]? = some x) : cntA b h x.f_Key = cntL (bandsOf b h) (j : Int) := by
 unfold cntA cntL bandsOf
 rw [List.filter_map, List.length_map]
 congr 2
 apply List.filter_congr
 intro s hs
 exact bandA_key hr hj (hh s hs)
theorem pairs_both {b : List G_Band} (hr : faultB b = 0) {h : List G_Spot} (hh : ∀ s ∈ h, ¬ bandI b s.f_Hertz < 0) : b.map (pairA (cntA b h)) = (upTo b.length).map (pairB b (cnts b.length (bandsOf b h))) := by
 apply List.ext_getElem?
 intro i
 by_cases hi : i < b.length
 ·have hg := List.getElem?_eq_getElem hi
  rw [List.getElem?_map, hg, List.getElem?_map]
  have hu : (upTo b.length)[i]? = some (i : Int) := by simp [upTo, hi]
  rw [hu]
  simp only [Option.map_some]
  unfold pairA pairB
  rw [Int.toNat_natCast, hg, cnts_get _ hi, cnt_both hr hh hg]; rfl
 ·rw [List.getElem?_eq_none (by rw [List.length_map]; omega), List.getElem?_eq_none (by rw [List.length_map, upTo_len]; omega)]
theorem sgn_lt {x : Int} : sgn x < 0 ↔ x < 0 := by
 unfold sgn
 by_cases h : x < 0
 ·rw [decide_eq_true h]; simp [h]
 ·rw [decide_eq_false h]
  by_cases h2 : x > 0
  ·rw [decide_eq_true h2]; simp; omega
  ·rw [decide_eq_false h2]; simp; omega
theorem busy_both {b : List G_Band} (hr : faultB b = 0) {h : List G_Spot} (hh : ∀ s ∈ h, ¬ bandI b s.f_Hertz < 0) : sortI (cmpA (cntA b h)) (b.map (pairA (cntA b h))) = busyB b h := by
 unfold busyB
 rw [pairs_both hr hh, sortI_map]
 congr 1
 refine sortI_congr (S := fun x => x ∈ upTo b.length) (fun x y hx hy => ?_) (fun y hy => hy)
 obtain ⟨x0, x1⟩ := upTo_mem.1 hx
 obtain ⟨y0, y1⟩ := upTo_mem.1 hy
 obtain ⟨i, rfl⟩ : ∃ i : Nat, x = (i : Int) := ⟨x.toNat, by omega⟩
 obtain ⟨j, rfl⟩ : ∃ j : Nat, y = (j : Int) := ⟨y.toNat, by omega⟩
 have hi : i < b.length := by omega
 have hj : j < b.length := by omega
 have gi := List.getElem?_eq_getElem hi
 have gj := List.getElem?_eq_getElem hj
 unfold cmpA cmpBy pairB
 rw [sgn_lt]
 simp only [Int.toNat_natCast, gi, gj, Option.map_some, Option.getD_some, cnts_get _ hi, cnts_get _ hj, cnt_both hr hh gi, cnt_both hr hh gj]
theorem heardS_mid {b : List G_Band} {life at0 : Int} {l : List G_Spot} : ∀ s ∈ heardS b life at0 l, ¬ bandI b s.f_Hertz < 0 := fun s hs => cntS_band (heardS_band hs).2
theorem z9z_is {b : List G_Band} (hr : faultB b = 0) (hb : b.length ≤ 20) {life at0 : Int} (ha : -1000000000000 ≤ at0 ∧ at0 ≤ 1000000000000) (hf : -1000000000000 ≤ life ∧ life ≤ 1000000000000) {l : List G_Spot} (hl : l.length ≤ 1000) (R : Type) (k : List G_Pair → Option R) :
  z9z b l life at0 k = k (busyB b (heardS b life at0 l)) := by
 have hle := heardS_len b life at0 l
 obtain ⟨m', g1, g2⟩ := BusiestOf_loop3 b (by omega) (heardS b life at0 l) (by omega) (heardS b life at0 l) NN 0 [] rfl (by have := NN_ok; omega) (fun s => by rw [lm_get_string_int]; rfl)
 have e9 : ∀ (R : Type) (e0 : List (List UInt8 × Int) → List G_Pair → Option R), z9z_L9 I_z9z NN b (b.length : Int) 0 m' [] e0 = e0 m' (b.map (pairA (cntA b (heardS b life at0 l)))) := fun R e0 =>
  BusiestOf_loop9 b (by omega) m' (cntA b (heardS b life at0 l)) g1 (fun s => by have := cntA_le b (heardS b life at0 l) s; omega) b NN 0 [] rfl (by have := NN_ok; omega) (by simp) R e0
 show (z0z b l life at0 fun r5 => _) = _
 rw [z0z_is hr (by omega) ha hf hl]
 refine (g2 R _).trans ?_
 refine (e9 R _).trans ?_
 refine (sortA_is g1 (by rw [List.length_map]; exact hb) R _).trans ?_
 rw [busy_both hr heardS_mid]
theorem equalP_is {l : List G_Pair} (hl : l.length ≤ 1000000) (R : Type) (k : Bool → Option R) : z24z l l k = k true := by
 rw [li_z24z]; exact sEqual_same (by have := NN_ok; omega) (by have := NN_ok; omega) (fun x => by rw [(eq_G_Pair_is x x).2 rfl]; rfl) k
theorem equalPn_is (R : Type) (k : Bool → Option R) : z48z [] k = k true := by
 rw [li_z48z]; exact sEqualN_nil (by have := NN_ok; omega) k
theorem law_SpotsHeard_true (l : List Int) (R : Type) (k : Bool → Option R) : law_SpotsHeard l k = k true := by
 obtain ⟨b, s1, z1, hb4, hb, e1⟩ := z82z_gives (sOk0 l) (by omega)
 obtain ⟨n, s2, n1, n2, z2, e2⟩ := z77z_gives z1 0 12 (by omega) (by omega) (by omega) (by omega) (by omega)
 obtain ⟨n, rfl⟩ : ∃ q : Nat, n = (q : Int) := ⟨n.toNat, by omega⟩
 obtain ⟨x, s3, z3, hx12, hx, e3⟩ := z50z_gives z2 (by omega) n (by omega)
 obtain ⟨q, s4, q1, q2, z4, e4⟩ := z77z_gives z3 0 6 (by omega) (by omega) (by omega) (by omega) (by omega)
 obtain ⟨q, rfl⟩ : ∃ p : Nat, q = (p : Int) := ⟨q.toNat, by omega⟩
 obtain ⟨y, s5, z5, hy6, hy, e5⟩ := z50z_gives z4 (by omega) q (by omega)
 obtain ⟨life, s6, hlife, z6, e6⟩ := z68z_gives z5 [1, 5, 30, 1000, 0, 86400001] (by omega) (by simp) (by simp)
 obtain ⟨at0, s7, hat, z7, e7⟩ := z68z_gives z6 [0, 10, 30, 60, 100, -1] (by omega) (by simp) (by simp)
 simp only [List.mem_cons, List.not_mem_nil, or_false] at hlife hat
 have hml : (mergeS x y).length ≤ 1000 := by have := mergeS_len x y; omega
 have hhl : (heardS b life at0 x).length ≤ 1000 := by have := heardS_len b life at0 x; omega
 have hbl : (busyB b (heardS b life at0 x)).length ≤ 1000 := by unfold busyB; rw [List.length_map, sortI_length, upTo_len]; omega
 have hm2 : mergedS x y = (mergeS x y, 0) := by unfold mergedS; rw [decide_eq_false (by omega)]; rfl
 simp only [law_SpotsHeard, law_SpotsHeard_, I_law_SpotsHeard, e1, e2, e3, e4, e5, e6, e7, band_Merge_is hx hy (show x.length ≤ 1000 by omega) (show y.length ≤ 1000 by omega), band_Heard_is hb hx (show b.length ≤ 100000 by omega) (show x.length ≤ 1000 by omega), z3z_is hb hx (show b.length ≤ 20 by omega) (show x.length ≤ 1000 by omega),
  z51z_is hx (show x.length ≤ 100000 by omega), z51z_is hy (show y.length ≤ 100000 by omega), z34z_is hb (show b.length ≤ 100000 by omega), z88z_is, law_errs_is [faultS x, faultS y] (by simp), law_errs_is [faultB b, faultS x, bif lifeB life at0 then 0 else 1] (by simp), z31z_is hx (show x.length ≤ 100000 by omega), Q_SpotsOf_is (show x.length ≤ 1000 by omega) (show y.length ≤ 1000 by omega), hm2]
 have hor : orL [faultB b, faultS x, bif lifeB life at0 then 0 else 1] = 0 → faultB b = 0 ∧ lifeB life at0 = true := fun h => by
  rw [orL_zero] at h
  refine ⟨h _ (by simp), ?_⟩
  have := h (bif lifeB life at0 then 0 else 1) (by simp)
  cases hq : lifeB life at0 with
  | true => rfl
  | false => rw [hq] at this; cases this
 have hQ : orL [faultB b, faultS x, bif lifeB life at0 then 0 else 1] = 0 → ∀ (R : Type) (k : List G_Spot → Option R), z0z b x life at0 k = k (heardS b life at0 x) := fun h R k => by
  obtain ⟨h1, h2⟩ := hor h
  obtain ⟨a1, a2⟩ := lifeB_is h2
  exact z0z_is h1 (by omega) ⟨by omega, by omega⟩ ⟨by omega, by omega⟩ (by omega) R k
 have hB : orL [faultB b, faultS x, bif lifeB life at0 then 0 else 1] = 0 → ∀ (R : Type) (k : List G_Pair → Option R), z9z b x life at0 k = k (busyB b (heardS b life at0 x)) := fun h R k => by
  obtain ⟨h1, h2⟩ := hor h
  obtain ⟨a1, a2⟩ := lifeB_is h2
  exact z9z_is h1 (by omega) ⟨by omega, by omega⟩ ⟨by omega, by omega⟩ (by omega) R k
 generalize orL [faultB b, faultS x, bif lifeB life at0 then 0 else 1] = F2 at hQ hB ⊢
 generalize orL [faultS x, faultS y] = F1
 by_cases c1 : F1 = 0 <;> by_cases c2 : F2 = 0
 ·subst c1 c2
  simp only [bne_self_eq_false, cond_false, beq_self_eq_true, cond_true, hQ rfl, hB rfl, equalS_is (show (mergeS x y).length ≤ 1000000 by omega), equalS_is (show (heardS b life at0 x).length ≤ 1000000 by omega), equalP_is (show (busyB b (heardS b life at0 x)).length ≤ 1000000 by omega), law_banded_is]
 ·subst c1
  have n2 : (F2 != 0) = true := by simpa using c2
  have m2 : (F2 == 0) = false := by simpa using c2
  simp only [bne_self_eq_false, cond_false, beq_self_eq_true, cond_true, n2, m2, equalS_is (show (mergeS x y).length ≤ 1000000 by omega), equalSn_is, equalPn_is, law_banded_is]
 ·subst c2
  have n1 : (F1 != 0) = true := by simpa using c1
  have m1 : (F1 == 0) = false := by simpa using c1
  simp only [bne_self_eq_false, cond_false, beq_self_eq_true, cond_true, hQ rfl, hB rfl, n1, m1, equalSn_is, equalS_is (show (heardS b life at0 x).length ≤ 1000000 by omega), equalP_is (show (busyB b (heardS b life at0 x)).length ≤ 1000000 by omega), law_banded_is]
 ·have n1 : (F1 != 0) = true := by simpa using c1
  have m1 : (F1 == 0) = false := by simpa using c1
  have n2 : (F2 != 0) = true := by simpa using c2
  have m2 : (F2 == 0) = false := by simpa using c2
  simp only [beq_self_eq_true, cond_true, cond_false, n1, m1, n2, m2, equalSn_is, equalPn_is, law_banded_is]
end Go.Am
