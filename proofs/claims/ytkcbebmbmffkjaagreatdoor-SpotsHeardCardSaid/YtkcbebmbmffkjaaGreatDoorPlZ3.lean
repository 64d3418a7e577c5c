/- The plain law, in Lean alone: Z3. No condition: lemmas for the claim. -/
import Derived.Test.YtkcbebmbmffkjaaGreatDoorPlZ1
import Derived.Test.YtkcbebmbmffkjaaGreatDoorPlB8
set_option linter.unusedVariables false
set_option linter.unusedSectionVars false
set_option linter.unusedSimpArgs false
set_option maxRecDepth 100000
namespace Go.Am
open Go Go.Proofs
variable [Fuel]
def cntS (b : List G_Band) (life at0 : Int) (s : G_Spot) : Bool := decide (at0 - life < s.f_At) && (decide (s.f_At ≤ at0) && !decide (bandI b s.f_Hertz < 0))
def keyS (b : List G_Band) (s : G_Spot) : G_band_onBand := ⟨s.f_Call, bandI b s.f_Hertz⟩
def sameS (b : List G_Band) (s o : G_Spot) : Bool := decide (keyS b o = keyS b s)
def heardS (b : List G_Band) (life at0 : Int) (l : List G_Spot) : List G_Spot := heardR (cntS b life at0) (sameS b) l
theorem lk_revS (g : Nat) : @z52z_ g = @sRev G_Spot g := by kernel_rfl
theorem lk_revI (g : Nat) : @z55z_ g = @sRev Int g := by kernel_rfl
theorem revS_is {l : List G_Spot} (hl : l.length ≤ 100000) (R : Type) (k : List G_Spot → Option R) : z52z l k = k l.reverse := by
 show z52z_ NN l k = _
 rw [lk_revS]
 exact sRev_is (by omega) (by have := NN_ok; omega) k
theorem revI_is {l : List Int} (hl : l.length ≤ 100000) (R : Type) (k : List Int → Option R) : z55z l k = k l.reverse := by
 show z55z_ NN l k = _
 rw [lk_revI]
 exact sRev_is (by omega) (by have := NN_ok; omega) k
theorem drop_step {α : Type} {d : List α} {n : Nat} {x : α} (h : d[n]? = some x) : d.drop n = x :: d.drop (n + 1) := by
 obtain ⟨h1, rfl⟩ := List.getElem?_eq_some_iff.1 h
 exact List.drop_eq_getElem_cons h1
theorem heardR_cons {α : Type} (cnt : α → Bool) (same : α → α → Bool) (x : α) (r : List α) : heardR cnt same (x :: r) = bif cnt x && !(r.any fun o => cnt o && same x o) then x :: heardR cnt same r else heardR cnt same r := by
 simp only [heardR]
theorem band_heard_loop (b : List G_Band) (hb : b.length ≤ 100000) (life at0 : Int) (ha : -1000000000000 ≤ at0 ∧ at0 ≤ 1000000000000) (hf : -1000000000000 ≤ life ∧ life ≤ 1000000000000) (d : List G_Spot) (hl : d.length ≤ 100000) : ∀ (n : Nat) (m : List (G_band_onBand × Bool)) (sp : List G_Spot) (bd : List Int), n ≤ d.length →
  sp = (heardS b life at0 (d.drop n)).reverse → bd = sp.map (fun s => bandI b s.f_Hertz) → (∀ w, (mget_band_onBand_bool w m).getD false = (d.drop n).any fun o => cntS b life at0 o && decide (keyS b o = w)) →
  ∃ m', ∀ (R : Type) (e0 : List G_Band → Int → Int → List (G_band_onBand × Bool) → List G_Spot → List Int → Option R), band_heard_L4 I_band_heard n d b life at0 m sp bd e0 = e0 b life at0 m' (heardS b life at0 d).reverse ((heardS b life at0 d).reverse.map (fun s => bandI b s.f_Hertz))
 | 0, m, sp, bd, _, hs, hbd, hm => ⟨m, fun R e0 => by rw [band_heard_L4, hbd, hs]; rfl⟩
 | n + 1, m, sp, bd, hn, hs, hbd, hm => by
  have hx : d[n]? = some d[n] := List.getElem?_eq_getElem (by omega)
  have hd := drop_step hx
  generalize d[n] = x at hx hd
  have hls : sp.length ≤ 100000 := by
   rw [hs, List.length_reverse]
   refine Nat.le_trans (heardR_len _ _ _) ?_
   rw [List.length_drop]; omega
  have hlb : bd.length ≤ 100000 := by rw [hbd, List.length_map]; exact hls
  have hw : w64 (at0 - life) = at0 - life := w64_eq (by omega) (by omega)
  have step : ∀ (c : Bool), cntS b life at0 x = false ∨ ((mget_band_onBand_bool (keyS b x) m).getD false = true) → heardS b life at0 (d.drop n) = heardS b life at0 (d.drop (n + 1)) ∧ ∀ w, (mget_band_onBand_bool w m).getD false = (d.drop n).any fun o => cntS b life at0 o && decide (keyS b o = w) := fun _ hc => by
   rw [hd]
   unfold heardS
   rw [heardR_cons]
   rcases hc with hc | hc
   ·rw [hc]
    refine ⟨rfl, fun w => ?_⟩
    rw [List.any_cons, hc, hm w]; rfl
   ·rw [hm] at hc
    have hany : ((d.drop (n + 1)).any fun o => cntS b life at0 o && sameS b x o) = true := hc
    refine ⟨?_, fun w => ?_⟩
    ·rw [hany]; simp
    ·rw [List.any_cons, hm w]
     cases hq : (cntS b life at0 x && decide (keyS b x = w)) with
     | false => rfl
     | true =>
      simp only [Bool.and_eq_true, decide_eq_true_eq] at hq
      rw [← hq.2, hc]; rfl
  have skip : cntS b life at0 x = false ∨ ((mget_band_onBand_bool (keyS b x) m).getD false = true) → ∃ m', ∀ (R : Type) (e0 : List G_Band → Int → Int → List (G_band_onBand × Bool) → List G_Spot → List Int → Option R), band_heard_L4 I_band_heard n d b life at0 m sp bd e0 = e0 b life at0 m' (heardS b life at0 d).reverse ((heardS b life at0 d).reverse.map (fun s => bandI b s.f_Hertz)) := fun hc => by
   obtain ⟨h1, h2⟩ := step true hc
   exact band_heard_loop b hb life at0 ha hf d hl n m sp bd (by omega) (by rw [h1]; exact hs) hbd h2
  have unf : ∀ (R : Type) (e0 : List G_Band → Int → Int → List (G_band_onBand × Bool) → List G_Spot → List Int → Option R), band_heard_L4 I_band_heard (n + 1) d b life at0 m sp bd e0 = bif cntS b life at0 x && !((mget_band_onBand_bool (keyS b x) m).getD false) then band_heard_L4 I_band_heard n d b life at0 (mset_band_onBand_bool (keyS b x) true m) (sp ++ [x]) (bd ++ [bandI b x.f_Hertz]) e0 else band_heard_L4 I_band_heard n d b life at0 m sp bd e0 := fun R e0 => by
   rw [band_heard_L4, hx]
   simp only [I_band_heard, log_At_is hb, hw, room1 sp x 48 (show sp.length ≤ 1000000 by omega) (by omega), room1 bd (bandI b x.f_Hertz) 8 (show bd.length ≤ 1000000 by omega) (by omega), cond_true, cntS]
   have e1 : decide (at0 - life < x.f_At) = !decide (x.f_At ≤ at0 - life) := by
    rw [Bool.eq_iff_iff]; simp
   have e2 : decide (x.f_At ≤ at0) = !decide (x.f_At > at0) := by
    rw [Bool.eq_iff_iff]; simp
   rw [e1, e2]
   show (bif decide (x.f_At ≤ at0 - life) then _ else bif decide (x.f_At > at0) then _ else bif decide (bandI b x.f_Hertz < 0) then _ else bif (mget_band_onBand_bool (keyS b x) m).getD false then _ else _) = _
   cases decide (x.f_At ≤ at0 - life) <;> cases decide (x.f_At > at0) <;> cases decide (bandI b x.f_Hertz < 0) <;> cases (mget_band_onBand_bool (keyS b x) m).getD false <;> rfl
  cases hc : cntS b life at0 x with
  | false =>
   obtain ⟨m', h⟩ := skip (.inl hc)
   exact ⟨m', fun R e0 => by rw [unf, hc, ← h R e0]; rfl⟩
  | true =>
   cases hg : (mget_band_onBand_bool (keyS b x) m).getD false with
   | true =>
    obtain ⟨m', h⟩ := skip (.inr hg)
    exact ⟨m', fun R e0 => by rw [unf, hc, hg, ← h R e0]; rfl⟩
   | false =>
    have hany : ((d.drop (n + 1)).any fun o => cntS b life at0 o && sameS b x o) = false := by
     have := hm (keyS b x)
     rw [hg] at this
     exact this.symm
    have hh : heardS b life at0 (d.drop n) = x :: heardS b life at0 (d.drop (n + 1)) := by
     rw [hd]
     unfold heardS
     rw [heardR_cons, hc, hany]; rfl
    obtain ⟨m', h⟩ := band_heard_loop b hb life at0 ha hf d hl n (mset_band_onBand_bool (keyS b x) true m) (sp ++ [x]) (bd ++ [bandI b x.f_Hertz]) (by omega) (by rw [hh, hs, List.reverse_cons]) (by rw [hbd, List.map_append]; rfl) (fun w => by
     rw [hd, List.any_cons, hc, lm_get_band_onBand_bool, lm_set_band_onBand_bool, aget_aset keq_band_onBand_is, Bool.true_and]
     have := hm w
     rw [lm_get_band_onBand_bool] at this
     by_cases e : w = keyS b x
     ·rw [(keq_band_onBand_is _ _).2 e, decide_eq_true e.symm]; rfl
     ·have e' : keq_band_onBand w (keyS b x) = false := by
       cases hq : keq_band_onBand w (keyS b x) with
       | false => rfl
       | true => exact absurd ((keq_band_onBand_is _ _).1 hq) e
      rw [e', decide_eq_false (fun h => e h.symm), Bool.false_or]
      exact this)
    exact ⟨m', fun R e0 => by rw [unf, hc, hg, ← h R e0]; rfl⟩
theorem slices_Backward_is (l : List G_Spot) (R : Type) (k : List G_Spot → Option R) : z80z l k = k l := rfl
theorem heardS_len (b : List G_Band) (life at0 : Int) (l : List G_Spot) : (heardS b life at0 l).length ≤ l.length := heardR_len _ _ l
theorem raw_band_heard_is {b : List G_Band} (hb : b.length ≤ 100000) {life at0 : Int} (ha : -1000000000000 ≤ at0 ∧ at0 ≤ 1000000000000) (hf : -1000000000000 ≤ life ∧ life ≤ 1000000000000) {l : List G_Spot} (hl : l.length ≤ 1000) (R : Type) (k : List G_Spot → List Int → Option R) :
  raw_band_heard I_band_heard b l life at0 k = k (heardS b life at0 l) ((heardS b life at0 l).map (fun s => bandI b s.f_Hertz)) := by
 obtain ⟨m', h⟩ := band_heard_loop b hb life at0 ha hf l (by omega) l.length [] [] [] (Nat.le_refl _) (by rw [List.drop_length]; rfl) rfl (fun w => by rw [List.drop_length, lm_get_band_onBand_bool]; rfl)
 have hle := heardS_len b life at0 l
 simp only [I_band_heard] at h
 simp only [raw_band_heard, I_band_heard, slices_Backward_is, decide_eq_true (show l.length < 4611686018427387904 by omega), cond_true, h, revS_is (show (heardS b life at0 l).reverse.length ≤ 100000 by rw [List.length_reverse]; omega), revI_is (show ((heardS b life at0 l).reverse.map (fun s => bandI b s.f_Hertz)).length ≤ 100000 by rw [List.length_map, List.length_reverse]; omega), List.reverse_reverse, ← List.map_reverse]
theorem band_heard_is {b : List G_Band} (hb : b.length ≤ 100000) {life at0 : Int} (ha : -1000000000000 ≤ at0 ∧ at0 ≤ 1000000000000) (hf : -1000000000000 ≤ life ∧ life ≤ 1000000000000) {l : List G_Spot} (hl : l.length ≤ 1000) (R : Type) (k : List G_Spot → List Int → Option R) :
  band_heard b l life at0 k = k (heardS b life at0 l) ((heardS b life at0 l).map (fun s => bandI b s.f_Hertz)) := by
 show (raw_band_heard I_band_heard b l life at0 (fun z0 z1 => some (inj0_band_heard (z0, z1)))).bind _ = _
 rw [raw_band_heard_is hb ha hf hl]
 rfl
def lifeB (life at0 : Int) : Bool := inB life 1 86400000 && momB at0
theorem z88z_is (life at0 : Int) (R : Type) (k : Int → Option R) : z88z life at0 k = k (bif lifeB life at0 then 0 else 1) := by
 simp only [z88z, z88z_, I_z88z, Q_in_is, Q_Moment_is, lifeB]
 cases inB life 1 86400000 <;> cases momB at0 <;> rfl
theorem z69z_is (life at0 hertz : Int) (R : Type) (k : Int → Option R) : z69z life at0 hertz k = k (bif lifeB life at0 && inB hertz 0 30000000000 then 0 else 1) := by
 simp only [z69z, z69z_, I_z69z, z62z_is, z73z_is, lifeB]
 cases inB life 1 86400000 <;> cases momB at0 <;> cases inB hertz 0 30000000000 <;> rfl
theorem lifeB_is {life at0 : Int} (h : lifeB life at0 = true) : (1 ≤ life ∧ life ≤ 86400000) ∧ 0 ≤ at0 ∧ at0 ≤ 345686399999 := by
 unfold lifeB momB at h
 rw [Bool.and_eq_true, inB_is, inB_is] at h
 exact h
theorem z70z_is {b : List G_Band} {l : List G_Spot} (hb : ∀ c ∈ b, FineB c) (hl : ∀ c ∈ l, FineS c) (h1 : b.length ≤ 100000) (h2 : l.length ≤ 100000) (R : Type) (k : Int → Option R) : z70z b l k = k (orL [faultB b, faultS l]) := by
 simp only [z70z, z70z_, I_z70z, z13z_is hb h1, z31z_is hl h2, orL]
 cases faultB b != 0 with
 | true => rfl
 | false =>
  cases h : faultS l != 0 with
  | true => rfl
  | false =>
   have : faultS l = 0 := by simpa using h
   rw [this]; rfl
theorem band_Heard_is {b : List G_Band} {l : List G_Spot} (hb : ∀ c ∈ b, FineB c) (hl : ∀ c ∈ l, FineS c) (h1 : b.length ≤ 100000) (h2 : l.length ≤ 1000) (life at0 : Int) (R : Type) (k : List G_Spot → Int → Option R) :
  band_Heard b l life at0 k = bif orL [faultB b, faultS l, bif lifeB life at0 then 0 else 1] != 0 then k [] (orL [faultB b, faultS l, bif lifeB life at0 then 0 else 1]) else k (heardS b life at0 l) 0 := by
 simp only [band_Heard, band_Heard_, I_band_Heard, z70z_is hb hl h1 (show l.length ≤ 100000 by omega), z69z_is, show inB 0 0 30000000000 = true from rfl, Bool.and_true, orL]
 cases q1 : faultB b != 0 with
 | true => simp only [cond_true, q1]
 | false =>
  simp only [cond_false]
  cases q2 : faultS l != 0 with
  | true => simp only [cond_true, q2]
  | false =>
   simp only [cond_false, bne_self_eq_false]
   cases q3 : lifeB life at0 with
   | false => rfl
   | true =>
    obtain ⟨a1, a2⟩ := lifeB_is q3
    simp only [cond_true, bne_self_eq_false, cond_false, band_heard_is h1 (life := life) (at0 := at0) ⟨by omega, by omega⟩ ⟨by omega, by omega⟩ h2]
def cntQ (b : List G_Band) (life at0 : Int) (s : G_Spot) : Bool := decide (at0 - life < s.f_At) && (decide (s.f_At ≤ at0) && !(bandA b s.f_Hertz == []))
def sameQ (b : List G_Band) (s o : G_Spot) : Bool := o.f_Call == s.f_Call && bandA b o.f_Hertz == bandA b s.f_Hertz
theorem heardQ_is {b : List G_Band} (h : faultB b = 0) (life at0 : Int) (l : List G_Spot) : heardR (cntQ b life at0) (sameQ b) l = heardS b life at0 l := by
 unfold heardS
 refine heardR_congr (fun x _ => ?_) (fun x _ y _ hx hy => ?_)
 ·unfold cntQ cntS
  rw [bandI_neg h]
 ·have e : ∀ z, cntQ b life at0 z = true → ¬ bandI b z.f_Hertz < 0 := fun z hz hn => by
   unfold cntQ at hz
   rw [← bandI_neg h, decide_eq_true hn] at hz
   simp at hz
  unfold sameQ sameS
  rw [← bandI_eq h (e y hy) (e x hx), Bool.eq_iff_iff]
  simp only [Bool.and_eq_true, beq_iff_eq, decide_eq_true_eq, keyS, G_band_onBand.mk.injEq]
theorem countsQ_is {b : List G_Band} (hb : b.length ≤ 100000) {life at0 : Int} (ha : -1000000000000 ≤ at0 ∧ at0 ≤ 1000000000000) (hf : -1000000000000 ≤ life ∧ life ≤ 1000000000000) (s : G_Spot) (R : Type) (k : Bool → Option R) : z58z s at0 life b k = k (cntQ b life at0 s) := by
 simp only [z58z, z58z_, I_z58z, Q_BandAt_is hb, w64_eq (x := at0 - life) (by omega) (by omega), cntQ]
 cases decide (at0 - life < s.f_At) <;> cases decide (s.f_At ≤ at0) <;> rfl
theorem laterQ_is {b : List G_Band} (hb : b.length ≤ 100000) {life at0 : Int} (ha : -1000000000000 ≤ at0 ∧ at0 ≤ 1000000000000) (hf : -1000000000000 ≤ life ∧ life ≤ 1000000000000) (s o : G_Spot) (R : Type) (k : Bool → Int → Int → List G_Band → G_Spot → Option R) : z40z o at0 life b s b k = k (cntQ b life at0 o && sameQ b s o) at0 life b s := by
 simp only [z40z, z40z_, I_z40z, countsQ_is hb ha hf, Q_BandAt_is hb, sameQ]
 cases cntQ b life at0 o <;> cases o.f_Call == s.f_Call <;> rfl
theorem idxQ_loop {b : List G_Band} (hb : b.length ≤ 100000) {life at0 : Int} (ha : -1000000000000 ≤ at0 ∧ at0 ≤ 1000000000000) (hf : -1000000000000 ≤ life ∧ life ≤ 1000000000000) (s : G_Spot) (d : List G_Spot) (hl : d.length ≤ 100000) (R : Type) (K : Bool → Int → Int → List G_Band → G_Spot → Option R) : ∀ (xs : List G_Spot) (n i : Nat), d.drop i = xs → xs.length < n →
  z11z_L2 I_z11z n d b (d.length : Int) (i : Int) at0 life b s (fun _ e28 e29 e30 e31 e32 => K (decide (e28 ≥ 0)) e29 e30 e31 e32) (fun _ e34 e35 e36 e37 => K (decide ((-1 : Int) ≥ 0)) e34 e35 e36 e37) = K (xs.any fun o => cntQ b life at0 o && sameQ b s o) at0 life b s
 | _, 0, _, _, h => by omega
 | [], n + 1, i, h, _ => by rw [z11z_L2, ge_drop h]; rfl
 | c :: cs, n + 1, i, h, hn => by
  have h' := drop_cons h
  have ih := idxQ_loop hb ha hf s d hl R K cs n (i + 1) h'.2.2.1 (Nat.lt_of_succ_lt_succ (by simpa only [List.length_cons] using hn))
  rw [z11z_L2, lt_drop h]
  simp only [I_z11z] at ih
  simp only [cond_true, get_drop h, I_z11z, laterQ_is hb ha hf, w64_succ (show i < 4611686018427387904 by omega), ih, List.any_cons]
  cases (cntQ b life at0 c && sameQ b s c) with
  | false => rfl
  | true => rw [decide_eq_true (show (i : Int) ≥ 0 by omega)]; rfl
theorem contQ_is {b : List G_Band} (hb : b.length ≤ 100000) {life at0 : Int} (ha : -1000000000000 ≤ at0 ∧ at0 ≤ 1000000000000) (hf : -1000000000000 ≤ life ∧ life ≤ 1000000000000) (s : G_Spot) (d : List G_Spot) (hl : d.length ≤ 100000) (R : Type) (k : Bool → Int → Int → List G_Band → G_Spot → List G_Band → Option R) :
  z27z d at0 life b s b k = k (d.any fun o => cntQ b life at0 o && sameQ b s o) at0 life b s b := by
 have h := idxQ_loop hb ha hf s d hl R (fun a c d e f => k a c d e f b) d NN 0 rfl (by have := NN_ok; omega)
 exact h
theorem z0z_loop {b : List G_Band} (hb : b.length ≤ 100000) {life at0 : Int} (ha : -1000000000000 ≤ at0 ∧ at0 ≤ 1000000000000) (hf : -1000000000000 ≤ life ∧ life ≤ 1000000000000) (d : List G_Spot) (hl : d.length ≤ 100000) : ∀ (xs : List G_Spot) (n i : Nat) (out : List G_Spot), d.drop i = xs → xs.length < n → out.length ≤ i → ∀ (R : Type) (e0 : List G_Spot → Option R),
  z0z_L3 I_z0z n d b life at0 d (d.length : Int) (i : Int) out e0 = e0 (out ++ heardR (cntQ b life at0) (sameQ b) xs)
 | _, 0, _, _, _, h, _, _, _ => by omega
 | [], n + 1, i, out, h, _, _, R, e0 => by rw [z0z_L3, ge_drop h, heardR, List.append_nil]; rfl
 | c :: cs, n + 1, i, out, h, hn, ho, R, e0 => by
  have h' := drop_cons h
  have hn' : cs.length < n := Nat.lt_of_succ_lt_succ (by simpa only [List.length_cons] using hn)
  have ih := fun out ho => z0z_loop hb ha hf d hl cs n (i + 1) out h'.2.2.1 hn' ho R e0
  have hw : w64 ((i : Int) + 1) = ((i + 1 : Nat) : Int) := w64_succ (by omega)
  rw [z0z_L3, lt_drop h]
  simp only [I_z0z] at ih
  simp only [cond_true, get_drop h, I_z0z, hw, Int.toNat_natCast, h'.2.2.1, contQ_is hb ha hf c cs (by have := h'.2.2.2; omega), countsQ_is hb ha hf, room1 out c 48 (show out.length ≤ 1000000 by omega) (by omega), ih (out ++ [c]) (by simp; omega), ih out (by omega), heardR_cons, List.append_assoc]
  rw [decide_eq_true (show (0 : Int) ≤ ((i + 1 : Nat) : Int) by omega), decide_eq_true (show ((i + 1 : Nat) : Int) ≤ (d.length : Int) by omega)]
  cases cntQ b life at0 c <;> cases (cs.any fun o => cntQ b life at0 o && sameQ b c o) <;> rfl
theorem z0z_is {b : List G_Band} (hr : faultB b = 0) (hb : b.length ≤ 100000) {life at0 : Int} (ha : -1000000000000 ≤ at0 ∧ at0 ≤ 1000000000000) (hf : -1000000000000 ≤ life ∧ life ≤ 1000000000000) {l : List G_Spot} (hl : l.length ≤ 1000) (R : Type) (k : List G_Spot → Option R) :
  z0z b l life at0 k = k (heardS b life at0 l) := by
 have h := z0z_loop hb ha hf l (by omega) l NN 0 [] rfl (by have := NN_ok; omega) (by simp) R k
 rw [List.nil_append, heardQ_is hr] at h
 exact h
end Go.Am
