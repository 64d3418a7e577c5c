/- The plain law, in Lean alone: Z8, Z9, ZA, ZB, ZC. No condition: lemmas for the claim. -/
import Derived.Test.YtnlblmnoiepeaaaGreatDoorPlZ4
import Derived.Test.YtnlblmnoiepeaaaGreatDoorPlD1
import Derived.Test.YtnlblmnoiepeaaaGreatDoorPlS1
import Derived.Test.YtnlblmnoiepeaaaGreatDoorPlR4
import Derived.Test.YtnlblmnoiepeaaaGreatDoorPlB4
import Derived.Test.YtnlblmnoiepeaaaGreatDoorPlH1
set_option linter.unusedVariables false
set_option linter.unusedSectionVars false
set_option linter.unusedSimpArgs false
set_option maxRecDepth 100000
namespace Go.Am
open Go Go.Proofs
variable [Fuel]
def pU {α : Type} (p : α → Bool) : α → Unit → {R : Type} → (Bool → Unit → Option R) → Option R := fun x u {_} k => k (p x) u
section
variable {c : List G_Contact} {at0 mode : Int} {b : List G_Band} {p : G_Spot → Bool} {S : G_Spot → Prop}
end
noncomputable def workedC (at0 mode : Int) (band base : List UInt8) (c : G_Contact) : Bool := decide (c.f_At ≤ at0) && (c.f_Mode == mode && (c.f_Band == band && baseB c.f_Call == base))
noncomputable def wasW (b : List G_Band) (c : List G_Contact) (at0 mode : Int) (s : G_Spot) : Bool := c.any (workedC at0 mode (bandA b s.f_Hertz) (baseB s.f_Call))
def cmpF (h : Int) (x y : G_Spot) : Int := w64 (farW h x - farW h y)
theorem lk_insP (g : C_z1z) : @z1z_ g = @sInsZ G_Spot Int g.N g.z52z := by kernel_rfl
theorem lk_staP (g : C_z0z) : @z0z_ g = @sStaS G_Spot Int g.N g.z1z := by kernel_rfl
theorem sortP_is {l : List G_Spot} (hl : l.length ≤ 20) (h : Int) (R : Type) (k : List G_Spot → Int → Option R) : z20z l h k = k (sortI (cmpF h) l) h := by
 simp only [z20z, z20z_, I_z20z]
 show z0z_ I_z0z l (l.length : Int) h _ = _
 rw [lk_staP]
 exact sStaS_is (N := NN) (cmpF h) (fun _ => True) h l (fun _ _ => trivial) hl (by have := NN_ok; omega) (by have := NN_ok; omega) _ (fun l a b R k hl => by
  show z1z_ I_z1z l a b h _ = _
  rw [lk_insP]
  exact sInsZ_is (c := cmpF h) (S := fun _ => True) (fun x y _ _ R k => rfl) NN hl R k) k
noncomputable def worthS (b : List G_Band) (c : List G_Contact) (mode at0 hertz : Int) (h : List G_Spot) : List G_Spot := sortI (cmpF hertz) (h.filter fun s => !wasW b c at0 mode s)
theorem Worth_loop14 (b : List G_Band) (sp : List G_Spot) (mode life at0 h : Int) (d : List G_Contact) (hd : ∀ c ∈ d, Fine c) (hl : d.length ≤ 100000) : ∀ (xs : List G_Contact) (n i : Nat) (m : List (G_band_worked × Bool)), d.drop i = xs → xs.length < n → (∀ w : G_band_worked, (mget_band_worked_bool w m).getD false = (d.take i).any (workedC at0 mode w.f_band w.f_base)) →
  ∃ m', (∀ w : G_band_worked, (mget_band_worked_bool w m').getD false = d.any (workedC at0 mode w.f_band w.f_base)) ∧ ∀ (R : Type) (e0 : List G_Band → List G_Spot → Int → Int → Int → List (G_band_worked × Bool) → Option R), band_Worth_L14 I_band_Worth n b sp mode life at0 d (d.length : Int) (i : Int) h m e0 = e0 b sp life at0 h m'
 | _, 0, _, _, _, hn, _ => by omega
 | [], n + 1, i, m, hd', _, hm => ⟨m, fun w => by rw [hm w, List.take_of_length_le (drop_nil hd')], fun R e0 => by rw [band_Worth_L14, ge_drop hd']; rfl⟩
 | c :: cs, n + 1, i, m, hd', hn, hm => by
  have h' := drop_cons hd'
  have hc := hd c (mem_drop hd')
  have hn' : cs.length < n := Nat.lt_of_succ_lt_succ (by simpa only [List.length_cons] using hn)
  have hw := w64_succ (show i < 4611686018427387904 by omega)
  cases hq : (decide (c.f_At ≤ at0) && c.f_Mode == mode) with
  | true =>
   obtain ⟨m', g1, g2⟩ := Worth_loop14 b sp mode life at0 h d hd hl cs n (i + 1) (mset_band_worked_bool ⟨baseB c.f_Call, c.f_Band⟩ true m) h'.2.2.1 hn' (fun w => by
    rw [take_drop hd', List.any_append, List.any_cons, List.any_nil, Bool.or_false, lm_get_band_worked_bool, lm_set_band_worked_bool, aget_aset keq_band_worked_is]
    have hmw := hm w
    rw [lm_get_band_worked_bool] at hmw
    have e1 : workedC at0 mode w.f_band w.f_base c = keq_band_worked w ⟨baseB c.f_Call, c.f_Band⟩ := by
     rw [Bool.eq_iff_iff, keq_band_worked_is]
     unfold workedC
     rw [← Bool.and_assoc, hq, Bool.true_and, Bool.and_eq_true, beq_iff_eq, beq_iff_eq]
     cases w
     simp only [G_band_worked.mk.injEq]
     constructor
     ·rintro ⟨rfl, rfl⟩; exact ⟨rfl, rfl⟩
     ·rintro ⟨rfl, rfl⟩; exact ⟨rfl, rfl⟩
    rw [e1]
    cases keq_band_worked w ⟨baseB c.f_Call, c.f_Band⟩ with
    | true => simp
    | false => rw [cond_false, Bool.or_false]; exact hmw)
   refine ⟨m', g1, fun R e0 => ?_⟩
   rw [Bool.and_eq_true] at hq
   rw [band_Worth_L14, lt_drop hd']
   simp only [I_band_Worth] at g2
   simp only [cond_true, get_drop hd', I_band_Worth, hq.1, hq.2, z75z_is hc.call, hw, g2]
  | false =>
   obtain ⟨m', g1, g2⟩ := Worth_loop14 b sp mode life at0 h d hd hl cs n (i + 1) m h'.2.2.1 hn' (fun w => by
    rw [take_drop hd', List.any_append, List.any_cons, List.any_nil, Bool.or_false, hm w]
    have : workedC at0 mode w.f_band w.f_base c = false := by
     unfold workedC
     rw [← Bool.and_assoc, hq]; rfl
    rw [this, Bool.or_false])
   refine ⟨m', g1, fun R e0 => ?_⟩
   rw [band_Worth_L14, lt_drop hd']
   simp only [I_band_Worth] at g2
   simp only [cond_true, get_drop hd', I_band_Worth, hw, g2]
   cases h1 : decide (c.f_At ≤ at0) with
   | false => rfl
   | true =>
    rw [h1, Bool.true_and] at hq
    rw [hq]; rfl
theorem Worth_loop22 (b : List G_Band) (h : Int) (m : List (G_band_worked × Bool)) (q : G_Spot → Bool) (d : List G_Spot) (hd : ∀ s ∈ d, FineSp s) (hb : ∀ s ∈ d, ¬ bandI b s.f_Hertz < 0) (hl : d.length ≤ 100000) (hm : ∀ s ∈ d, (mget_band_worked_bool ⟨baseB s.f_Call, bandA b s.f_Hertz⟩ m).getD false = q s) : ∀ (xs : List G_Spot) (n i : Nat) (out : List G_Spot), d.drop i = xs → xs.length < n → out.length ≤ i → ∀ (R : Type) (e0 : Int → List G_Spot → Option R),
  band_Worth_L22 I_band_Worth n b (d.length : Int) (i : Int) h m d (bandsOf b d) out e0 = e0 h (out ++ xs.filter fun s => !q s)
 | _, 0, _, _, _, hn, _, _, _ => by omega
 | [], n + 1, i, out, hx, _, _, R, e0 => by rw [band_Worth_L22, ge_drop hx, List.filter_nil, List.append_nil]; rfl
 | s :: ss, n + 1, i, out, hx, hn, ho, R, e0 => by
  have h' := drop_cons hx
  have hs := hd s (mem_drop hx)
  have hbs := hb s (mem_drop hx)
  have hn' : ss.length < n := Nat.lt_of_succ_lt_succ (by simpa only [List.length_cons] using hn)
  have ih := fun out ho => Worth_loop22 b h m q d hd hb hl hm ss n (i + 1) out h'.2.2.1 hn' ho R e0
  have hbi : (bandsOf b d)[i]? = some (bandI b s.f_Hertz) := by unfold bandsOf; rw [List.getElem?_map, h'.1]; rfl
  have hli : i < (bandsOf b d).length := by unfold bandsOf; rw [List.length_map]; exact h'.2.1
  obtain ⟨j, x, hj, hjx, hA⟩ : ∃ (j : Nat) (x : G_Band), bandI b s.f_Hertz = (j : Int) ∧ b[j]? = some x ∧ bandA b s.f_Hertz = x.f_Key := by
   unfold bandI at hbs
   unfold bandI bandA
   rcases idxI_cases (inBand s.f_Hertz) b with ⟨e1, _⟩ | ⟨j, x, e1, e2, e3, e4⟩
   ·rw [e1] at hbs; omega
   ·exact ⟨j, x, e1, e2, by rw [e4]; rfl⟩
  have hq := hm s (mem_drop hx)
  rw [hA] at hq
  rw [band_Worth_L22, lt_drop hx, cond_true, inr_drop hx, at_drop hx, inr_nat hli, at_nat hbi, hj, get_nat hjx]
  simp only [I_band_Worth] at ih
  simp only [I_band_Worth, z75z_is hs.call, hq, room1 out s 48 (show out.length ≤ 1000000 by omega) (by omega), w64_succ (show i < 4611686018427387904 by omega), ih (out ++ [s]) (by simp; omega), ih out (by omega), List.filter_cons, List.append_assoc]
  cases q s <;> rfl
theorem band_Worth_is {b : List G_Band} {l : List G_Spot} {c : List G_Contact} (hb : ∀ c ∈ b, FineB c) (hl : ∀ c ∈ l, FineSp c) (hc : ∀ x ∈ c, Fine x) (h1 : b.length ≤ 100000) (h2 : l.length ≤ 20) (h3 : c.length ≤ 1000) (mode life at0 hertz : Int) (R : Type) (k : List G_Spot → Int → Option R) :
  band_Worth b l c mode life at0 hertz k = bif orL [orL [faultB b, faultS l], faultL c, bif inB mode 1 3 then 0 else 4, bif lifeB life at0 && inB hertz 0 30000000000 then 0 else 1] != 0 then k [] (orL [orL [faultB b, faultS l], faultL c, bif inB mode 1 3 then 0 else 4, bif lifeB life at0 && inB hertz 0 30000000000 then 0 else 1]) else k (worthS b c mode at0 hertz (heardS b life at0 l)) 0 := by
 have e4 : ∀ k : List G_Spot → Int → Option R, k [] 4 = k [] 4 := fun _ => rfl
 simp only [band_Worth, band_Worth_, I_band_Worth, z73z_is hb hl h1 (show l.length ≤ 100000 by omega), z46z_is hc (show c.length ≤ 100000 by omega), kit_IsMode_is, z74z_is]
 rw [show orL [orL [faultB b, faultS l], faultL c, bif inB mode 1 3 then 0 else 4, bif lifeB life at0 && inB hertz 0 30000000000 then 0 else 1] = bif orL [faultB b, faultS l] != 0 then orL [faultB b, faultS l] else orL [faultL c, bif inB mode 1 3 then 0 else 4, bif lifeB life at0 && inB hertz 0 30000000000 then 0 else 1] from rfl]
 cases q1 : orL [faultB b, faultS l] != 0 with
 | true => simp only [cond_true, q1]
 | false =>
  have q1' : orL [faultB b, faultS l] = 0 := by simpa using q1
  have hr : faultB b = 0 := orL_zero.1 q1' _ (by simp)
  simp only [cond_false, orL]
  cases q2 : faultL c != 0 with
  | true => simp only [cond_true, q2]
  | false =>
   cases q5 : inB mode 1 3 with
   | false => rfl
   | true =>
    cases q3 : lifeB life at0 with
    | false => rfl
    | true =>
     cases q4 : inB hertz 0 30000000000 with
     | false => rfl
     | true =>
      obtain ⟨a1, a2⟩ := lifeB_is q3
      have hle := heardS_len b life at0 l
      have hfl := List.length_filter_le (fun s => !wasW b c at0 mode s) (heardS b life at0 l)
      obtain ⟨m', g1, g2⟩ := Worth_loop14 b l mode life at0 hertz c hc (by omega) c NN 0 [] rfl (by have := NN_ok; omega) (fun w => by rw [lm_get_band_worked_bool]; rfl)
      have e22 : ∀ e0 : Int → List G_Spot → Option R, band_Worth_L22 I_band_Worth NN b ((heardS b life at0 l).length : Int) 0 hertz m' (heardS b life at0 l) (bandsOf b (heardS b life at0 l)) [] e0 = e0 hertz ((heardS b life at0 l).filter fun s => !wasW b c at0 mode s) := fun e0 =>
       Worth_loop22 b hertz m' (wasW b c at0 mode) (heardS b life at0 l) (fun s h => hl s (heardS_band h).1) (fun s h => heardS_mid s h) (by omega) (fun s _ => g1 ⟨baseB s.f_Call, bandA b s.f_Hertz⟩) (heardS b life at0 l) NN 0 [] rfl (by have := NN_ok; omega) (by simp) R e0
      simp only [Bool.not_true, cond_false, cond_true, Bool.and_self, bne_self_eq_false]
      refine (g2 R _).trans ?_
      refine (band_heard_is h1 (life := life) (at0 := at0) ⟨by omega, by omega⟩ ⟨by omega, by omega⟩ (show l.length ≤ 1000 by omega) R _).trans ?_
      refine (e22 _).trans ?_
      exact sortP_is (by omega) hertz R _
end Go.Am
set_option linter.unusedVariables false
set_option linter.unusedSectionVars false
set_option linter.unusedSimpArgs false
set_option maxRecDepth 100000
namespace Go.Am
open Go Go.Proofs
variable [Fuel]
section
variable {h way first : Int}
end
theorem cmpI_lt {a b : Int} : cmpI a b < 0 ↔ a < b := by
 unfold cmpI
 by_cases h : a < b
 ·rw [decide_eq_true h]; simp [h]
 ·rw [decide_eq_false h]
  by_cases h2 : a > b
  ·rw [decide_eq_true h2]; simp; omega
  ·rw [decide_eq_false h2]; simp; omega
abbrev InM (x : Int) : Prop := 0 ≤ x ∧ x ≤ 30000000000
end Go.Am
set_option linter.unusedVariables false
set_option linter.unusedSectionVars false
set_option linter.unusedSimpArgs false
set_option maxRecDepth 100000
namespace Go.Am
open Go Go.Proofs
variable [Fuel]
theorem faultSs_chk : ∀ (l : List G_Spot) (p : Option G_Spot), faultSs p l = 0 → ∀ c ∈ l, chkS c = 0
 | [], _, _, c, h => by cases h
 | x :: xs, p, h, c, hc => by
  unfold faultSs at h
  cases hq : chkS x != 0 with
  | true => rw [hq] at h; simp only [cond_true] at h; rw [h] at hq; cases hq
  | false =>
   rw [hq] at h
   simp only [cond_false] at h
   have h0 : chkS x = 0 := by simpa using hq
   have h2 : faultSs (some x) xs = 0 := by
    cases p with
    | none => exact h
    | some q =>
     simp only at h
     cases hd : decide (cmpSp q x ≥ 0) with
     | true => rw [hd] at h; simp only [cond_true] at h; omega
     | false => rw [hd] at h; exact h
   rcases List.mem_cons.1 hc with rfl | hc
   ·exact h0
   ·exact faultSs_chk xs (some x) h2 c hc
theorem faultS_mid {l : List G_Spot} (h : faultS l = 0) : ∀ c ∈ l, InM c.f_Hertz := fun c hc => by
 unfold faultS at h
 have h2 : faultSs none l = 0 := by
  cases hd : decide ((l.length : Int) > 2000) with
  | true => rw [hd] at h; simp only [cond_true] at h; omega
  | false => rw [hd] at h; exact h
 have h3 := faultSs_chk l none h2 c hc
 unfold chkS at h3
 cases hi : inB c.f_Hertz 0 30000000000 with
 | true => exact inB_is.1 hi
 | false => rw [hi] at h3; revert h3; cases momB c.f_At <;> simp
theorem worthS_len (b : List G_Band) (c : List G_Contact) (mode at0 hertz : Int) (h : List G_Spot) : (worthS b c mode at0 hertz h).length ≤ h.length := by
 unfold worthS
 rw [sortI_length]
 exact List.length_filter_le _ _
end Go.Am
set_option linter.unusedVariables false
set_option linter.unusedSectionVars false
set_option linter.unusedSimpArgs false
set_option maxRecDepth 100000
namespace Go.Am
open Go Go.Proofs
variable [Fuel]
theorem keys4_ok : bands4.all (fun x => (match kit_IsKey x.f_Key some with | some b => b | none => false)) = true := by
 obtain ⟨m, h, rfl⟩ := fuel_is ‹Fuel›
 kernel_rfl
theorem keys4 : ∀ x ∈ bands4, keyB x.f_Key = true := fun x hx => by
 have h := List.all_eq_true.1 keys4_ok x hx
 rw [kit_IsKey_Z (bands4_fine x hx).key] at h
 exact h
def faultBc : Option G_Band → List G_Band → Int
 | _, [] => 0
 | p, x :: xs => bif badB x then 1 else match p with
  | none => faultBc (some x) xs
  | some q => bif decide (x.f_Low < q.f_High) then 7 else faultBc (some x) xs
theorem faultBs_c : ∀ (l : List G_Band) (p : Option G_Band), (∀ x ∈ l, keyB x.f_Key = true) → faultBs p l = faultBc p l
 | [], _, _ => rfl
 | x :: xs, p, h => by
  unfold faultBs faultBc
  rw [h x (by simp), faultBs_c xs (some x) (fun y hy => h y (by simp [hy]))]
  rfl
theorem right_faultB {r : List G_Band} (h : r.Sublist bands4) : faultB r = 0 := by
 have hk : ∀ x ∈ r, keyB x.f_Key = true := fun x hx => keys4 x (h.subset hx)
 unfold faultB
 rw [faultBs_c r none hk]
 simp only [bands4, List.sublist_cons_iff, List.sublist_nil] at h
 rcases h with h | ⟨r, rfl, h⟩ <;> rcases h with h | ⟨r, rfl, h⟩ <;> rcases h with h | ⟨r, rfl, h⟩ <;> rcases h with rfl | ⟨r, rfl, rfl⟩ <;> decide +kernel
theorem log_BandOf_is {b : List G_Band} (hb : ∀ c ∈ b, FineB c) (h1 : b.length ≤ 100000) (hr : faultB b = 0) {h : Int} (hh : InM h) (hn : ¬ bandI b h < 0) (R : Type) (k : List UInt8 → Bool → Int → Option R) : log_BandOf b h k = k (bandA b h) true 0 := by
 obtain ⟨j, x, hj, hjx, hA⟩ : ∃ (j : Nat) (x : G_Band), bandI b h = (j : Int) ∧ b[j]? = some x ∧ bandA b h = x.f_Key := by
  unfold bandI at hn
  unfold bandI bandA
  rcases idxI_cases (inBand h) b with ⟨e1, _⟩ | ⟨j, x, e1, e2, e3, e4⟩
  ·rw [e1] at hn; omega
  ·exact ⟨j, x, e1, e2, by rw [e4]; rfl⟩
 simp only [log_BandOf, log_BandOf_, I_log_BandOf, z8z_is hb h1, hr, bne_self_eq_false, cond_false, z44z_is, inB_is.2 hh, Bool.not_true, log_At_is h1, hj, decide_eq_false (show ¬ (j : Int) < 0 by omega), get_nat hjx, hA]
end Go.Am
set_option linter.unusedVariables false
set_option linter.unusedSectionVars false
set_option linter.unusedSimpArgs false
set_option maxRecDepth 100000
namespace Go.Am
open Go Go.Proofs
variable [Fuel]
def lateC (c : G_Contact) : Bool := decide (c.f_At > 200)
theorem idxN_loop : ∀ (n : Nat) (a i : Int) (l : List G_Contact) (R : Type) (e0 : Int → List G_Contact → Option R) (e1 : List G_Contact → Option R),
  z13z_L2 I_z13z n a i l e0 e1 = sIndexO_L2 (pU lateC) n a i l () (fun i l _ => e0 i l) (fun l _ => e1 l)
 | 0, _, _, _, _, _, _ => rfl
 | n + 1, a, i, l, R, e0, e1 => by
  rw [z13z_L2, sIndexO_L2]
  cases decide (i < a) with
  | false => rfl
  | true =>
   refine inr_congr (at_congr fun x hx => ?_)
   show (bif lateC x then _ else _) = (bif lateC x then _ else _)
   cases lateC x with
   | true => rfl
   | false => exact idxN_loop n a _ l R e0 e1
theorem delN_loop : ∀ (n : Nat) (i j : Int) (l : List G_Contact) (R : Type) (e0 : Int → List G_Contact → Option R),
  z10z_L5 I_z10z n i j l e0 = sDel_L5 (pU lateC) n i j l () (fun i l _ => e0 i l)
 | 0, _, _, _, _, _ => rfl
 | n + 1, i, j, l, R, e0 => by
  rw [z10z_L5, sDel_L5]
  cases decide (j < (l.length : Int)) with
  | false => rfl
  | true =>
   refine inr_congr (at_congr fun x hx => ?_)
   show (bif !lateC x then _ else _) = (bif !lateC x then _ else _)
   cases lateC x with
   | true => exact delN_loop n i _ l R e0
   | false => exact inr_congr (at_congr fun y hy => delN_loop n _ _ _ R e0)
theorem delN_is {l : List G_Contact} (hl : l.length ≤ 100000) (R : Type) (k : List G_Contact → Option R) : z10z l k = k (l.filter (fun x => !lateC x)) := by
 have e1 : ∀ k : Int → List G_Contact → Option R, I_z10z.z13z l k = k (idxI lateC l) l := fun k => by
  show z13z_L2 I_z13z NN (l.length : Int) 0 l (fun e25 e26 => k e25 e26) (fun e31 => k (-1) e31) = _
  rw [idxN_loop]
  exact sIndexO_is (N := NN) (pU lateC) lateC () l (fun x _ R k => rfl) (by have := NN_ok; omega) (by have := NN_ok; omega) (fun i l _ => k i l)
 show z10z_ I_z10z l k = _
 unfold z10z_
 rw [e1, delN_loop]
 exact sDel_fin_is (N := NN) (z := (⟨0, 0, [], [], 0, 0, [], []⟩ : G_Contact)) (f := pU lateC) lateC () l (fun x _ R k => rfl) (by have := NN_ok; omega) (by have := NN_ok; omega) (fun l _ => k l)
noncomputable def keyW (c : G_Contact) : G_log_worked := ⟨baseB c.f_Call, c.f_Band, c.f_Mode⟩
theorem dupes_loop (d : List G_Contact) (hd : ∀ c ∈ d, c.f_Call ∈ callsL) (hl : d.length ≤ 1000) : ∀ (xs : List G_Contact) (n i : Nat) (m : List (G_log_worked × Bool)) (out : List Int), d.drop i = xs → xs.length < n → out.length ≤ i → i ≤ d.length → (∀ w, (mget_log_worked_bool w m).getD false = (d.take i).any fun c => decide (keyW c = w)) →
  ∃ r : List Int, r.length ≤ d.length ∧ (∀ j ∈ r, j ∈ out ∨ ∃ (q : Nat) (c : G_Contact), j = (q : Int) ∧ d[q]? = some c ∧ (d.take q).any (fun o => decide (keyW o = keyW c)) = true) ∧ ∀ (R : Type) (e0 : List Int → Option R), log_dupes_L4 I_log_dupes n d (d.length : Int) (i : Int) m out e0 = e0 r
 | _, 0, _, _, _, _, h, _, _, _ => by omega
 | [], n + 1, i, m, out, hx, _, ho, hi, hm => ⟨out, by omega, fun j hj => .inl hj, fun R e0 => by rw [log_dupes_L4, ge_drop hx]; rfl⟩
 | c :: cs, n + 1, i, m, out, hx, hn, ho, hi, hm => by
  have h' := drop_cons hx
  have hn' : cs.length < n := Nat.lt_of_succ_lt_succ (by simpa only [List.length_cons] using hn)
  have hc := hd c (mem_drop hx)
  have hw := w64_succ (show i < 4611686018427387904 by omega)
  have hm2 : ∀ w, (mget_log_worked_bool w (mset_log_worked_bool (keyW c) true m)).getD false = (d.take (i + 1)).any fun c => decide (keyW c = w) := fun w => by
   rw [take_drop hx, List.any_append, List.any_cons, List.any_nil, Bool.or_false, lm_get_log_worked_bool, lm_set_log_worked_bool, aget_aset keq_log_worked_is]
   have hmw := hm w
   rw [lm_get_log_worked_bool] at hmw
   by_cases e : w = keyW c
   ·rw [(keq_log_worked_is _ _).2 e, decide_eq_true e.symm]; simp
   ·have e' : keq_log_worked w (keyW c) = false := by
     cases hq : keq_log_worked w (keyW c) with
     | false => rfl
     | true => exact absurd ((keq_log_worked_is _ _).1 hq) e
    rw [e', decide_eq_false (fun h => e h.symm), cond_false, Bool.or_false]
    exact hmw
  have e : ∀ (R : Type) (k : List UInt8 → Option R), I_log_dupes.z75z c.f_Call k = k (baseB c.f_Call) := fun R k => z75z_is hc R k
  cases hq : (mget_log_worked_bool (keyW c) m).getD false with
  | true =>
   obtain ⟨r, g0, g1, g2⟩ := dupes_loop d hd hl cs n (i + 1) _ (out ++ [(i : Int)]) h'.2.2.1 hn' (by simp; omega) h'.2.1 hm2
   refine ⟨r, g0, fun j hj => ?_, fun R e0 => ?_⟩
   ·rcases g1 j hj with hj | hj
    ·rcases List.mem_append.1 hj with hj | hj
     ·exact .inl hj
     ·rw [List.mem_singleton] at hj
      exact .inr ⟨i, c, hj, h'.1, by rw [← hm]; exact hq⟩
    ·exact .inr hj
   ·have hq' : (mget_log_worked_bool ⟨baseB c.f_Call, c.f_Band, c.f_Mode⟩ m).getD false = true := hq
    rw [log_dupes_L4, lt_drop hx, cond_true, get_drop hx, e, hq', cond_true, room1 out (i : Int) 8 (show out.length ≤ 1000000 by omega) (by omega), cond_true, hw]
    exact g2 R e0
  | false =>
   obtain ⟨r, g0, g1, g2⟩ := dupes_loop d hd hl cs n (i + 1) _ out h'.2.2.1 hn' (by omega) h'.2.1 hm2
   refine ⟨r, g0, g1, fun R e0 => ?_⟩
   have hq' : (mget_log_worked_bool ⟨baseB c.f_Call, c.f_Band, c.f_Mode⟩ m).getD false = false := hq
   rw [log_dupes_L4, lt_drop hx, cond_true, get_drop hx, e, hq', cond_false, hw]
   exact g2 R e0
theorem log_Dupes_gives {d : List G_Contact} (hf : ∀ c ∈ d, Fine c) (hl : d.length ≤ 1000) (h0 : faultL d = 0) : ∃ r : List Int, r.length ≤ 1000 ∧ (∀ j ∈ r, ∃ (q : Nat) (c : G_Contact), j = (q : Int) ∧ d[q]? = some c ∧ (d.take q).any (fun o => decide (keyW o = keyW c)) = true) ∧ ∀ (R : Type) (k : List Int → Int → Option R), log_Dupes d k = k r 0 := by
 obtain ⟨r, g0, g1, g2⟩ := dupes_loop d (fun c hc => (hf c hc).call) hl d NN 0 [] [] rfl (by have := NN_ok; omega) (by simp) (by omega) (fun w => by rw [lm_get_log_worked_bool]; rfl)
 refine ⟨r, by omega, fun j hj => ?_, fun R k => ?_⟩
 ·rcases g1 j hj with hj | hj
  ·cases hj
  ·exact hj
 ·have e1 : ∀ k : Int → Option R, I_log_Dupes.z46z d k = k 0 := fun k => by
   show z46z d k = _
   rw [z46z_is hf (by omega), h0]
  have e2 : ∀ k : List Int → Option R, I_log_Dupes.log_dupes d k = k r := fun k => g2 R k
  show log_Dupes_ I_log_Dupes d k = _
  unfold log_Dupes_
  rw [e1, bne_self_eq_false, cond_false, e2]
def newW (key call : List UInt8) : G_Contact := ⟨100000000, 1, key, call, 0, 0, [], []⟩
theorem keysZ_L : ∀ s ∈ keysZ, s ∈ keysL := by
 intro s hs
 simp only [keysZ, List.mem_cons, List.not_mem_nil, or_false] at hs
 rcases hs with rfl | rfl | rfl | rfl | rfl <;> decide +kernel
theorem newW_fine {key call : List UInt8} (h1 : key ∈ keysZ) (h2 : call ∈ callsL) : Fine (newW key call) :=
 ⟨⟨show (-2199023255552 : Int) ≤ 100000000 by omega, show (100000000 : Int) ≤ 2199023255552 by omega⟩, ⟨show (-2199023255552 : Int) ≤ 1 by omega, show (1 : Int) ≤ 2199023255552 by omega⟩, ⟨show (-2199023255552 : Int) ≤ 0 by omega, show (0 : Int) ≤ 2199023255552 by omega⟩, ⟨show (-2199023255552 : Int) ≤ 0 by omega, show (0 : Int) ≤ 2199023255552 by omega⟩, keysZ_L _ h1, h2, show ([] : List UInt8) ∈ keysL by decide +kernel, show ([] : List UInt8) ∈ keysL by decide +kernel⟩
theorem newW_chk {key call : List UInt8} (h1 : keyB key = true) (h2 : callB call = true) : chk (newW key call) = 0 := by
 unfold chk newW
 simp only
 rw [h1, h2]
 rfl
theorem chkS_call {c : G_Spot} (h : chkS c = 0) : callB c.f_Call = true := by
 unfold chkS at h
 cases hq : callB c.f_Call with
 | true => rfl
 | false => rw [hq] at h; revert h; cases momB c.f_At <;> cases inB c.f_Hertz 0 30000000000 <;> simp
theorem faultS_chk {l : List G_Spot} (h : faultS l = 0) : ∀ c ∈ l, chkS c = 0 := fun c hc => by
 unfold faultS at h
 have h2 : faultSs none l = 0 := by
  cases hd : decide ((l.length : Int) > 2000) with
  | true => rw [hd] at h; simp only [cond_true] at h; omega
  | false => rw [hd] at h; exact h
 exact faultSs_chk l none h2 c hc
theorem cmpC_at_lt {x y : G_Contact} (h : x.f_At < y.f_At) : cmpC x y < 0 := by
 have h1 : cmpI x.f_At y.f_At < 0 := cmpI_lt.2 h
 unfold cmpC
 show (bif cmpI x.f_At y.f_At != 0 then cmpI x.f_At y.f_At else _) < 0
 rw [show (cmpI x.f_At y.f_At != 0) = true from by simp; omega]
 exact h1
structure TopOk (b : List G_Band) (c : List G_Contact) (w : List G_Spot) : Prop where
 fb : ∀ x ∈ b, FineB x
 lb : b.length ≤ 100000
 rb : faultB b = 0
 kb : ∀ x ∈ b, keyB x.f_Key = true
 fc : ∀ x ∈ c, Fine x
 ac : ∀ x ∈ c, x.f_At ≤ 200
 gc : faultL c = 0
 lc : c.length ≤ 100
 fw : ∀ s ∈ w, FineSp s
 mw : ∀ s ∈ w, InM s.f_Hertz
 cw : ∀ s ∈ w, callB s.f_Call = true
 bw : ∀ s ∈ w, ¬ bandI b s.f_Hertz < 0
 nw : ∀ s ∈ w, c.any (fun o => decide (keyW o = keyW (newW (bandA b s.f_Hertz) s.f_Call))) = false
 lw : w.length ≤ 1000
theorem top_loop {b : List G_Band} {c : List G_Contact} {w : List G_Spot} (H : TopOk b c w) : ∀ (xs : List G_Spot) (n i : Nat), w.drop i = xs → xs.length < n → ∀ (R : Type) (e0 : Bool → Option R) (e1 : Option R),
  top_TopWorthIsNew_L9 I_top_TopWorthIsNew n 100000000 (w.length : Int) (i : Int) b w c e0 e1 = e1
 | _, 0, _, _, h, _, _, _ => by omega
 | [], n + 1, i, hx, _, R, e0, e1 => by rw [top_TopWorthIsNew_L9, ge_drop hx]; rfl
 | s :: ss, n + 1, i, hx, hn, R, e0, e1 => by
  have h' := drop_cons hx
  have hs := mem_drop hx
  have hlw := H.lw
  have hlc := H.lc
  have ih := top_loop H ss n (i + 1) h'.2.2.1 (Nat.lt_of_succ_lt_succ (by simpa only [List.length_cons] using hn)) R e0 e1
  obtain ⟨x, hxb, hA⟩ : ∃ x, x ∈ b ∧ bandA b s.f_Hertz = x.f_Key := by
   have hbs := H.bw s hs
   unfold bandI at hbs
   unfold bandA
   rcases idxI_cases (inBand s.f_Hertz) b with ⟨e1, _⟩ | ⟨j, x, e1, e2, e3, e4⟩
   ·rw [e1] at hbs; omega
   ·exact ⟨x, List.mem_of_getElem? e2, by rw [e4]; rfl⟩
  have hfN : Fine (newW (bandA b s.f_Hertz) s.f_Call) := newW_fine (by rw [hA]; exact (H.fb x hxb).key) (H.fw s hs).call
  have hcN : chk (newW (bandA b s.f_Hertz) s.f_Call) = 0 := newW_chk (by rw [hA]; exact H.kb x hxb) (H.cw s hs)
  obtain ⟨p1, p2⟩ := faultL_parts H.gc (by omega)
  have hfd : ∀ y ∈ c ++ [newW (bandA b s.f_Hertz) s.f_Call], Fine y := fun y hy => by
   rcases List.mem_append.1 hy with hy | hy
   ·exact H.fc y hy
   ·rw [List.mem_singleton] at hy; rw [hy]; exact hfN
  have h0 : faultL (c ++ [newW (bandA b s.f_Hertz) s.f_Call]) = 0 := faultL_of (fun y hy => by
    rcases List.mem_append.1 hy with hy | hy
    ·exact p1 y hy
    ·rw [List.mem_singleton] at hy; rw [hy]; exact hcN) (List.pairwise_append.2 ⟨p2, List.pairwise_singleton _ _, fun y hy z hz => by
     rw [List.mem_singleton] at hz
     rw [hz]
     refine cmpC_at_lt ?_
     have := H.ac y hy
     show y.f_At < 100000000
     omega⟩) (by simp; omega)
  obtain ⟨r, g0, g1, g2⟩ := log_Dupes_gives hfd (by simp; omega) h0
  have hno : (r.any fun y => (c.length : Int) == y) = false := by
   rw [List.any_eq_false]
   intro y hy
   obtain ⟨q, z, e1, e2, e3⟩ := g1 y hy
   intro he
   have hqc : q = c.length := by have := eq_of_beq he; omega
   subst hqc
   rw [List.getElem?_append_right (by omega), Nat.sub_self] at e2
   have hz : newW (bandA b s.f_Hertz) s.f_Call = z := Option.some.inj e2
   rw [← hz, List.take_left, H.nw s hs] at e3
   cases e3
  have f1 : ∀ k : List UInt8 → Bool → Int → Option R, I_top_TopWorthIsNew.log_BandOf b s.f_Hertz k = k (bandA b s.f_Hertz) true 0 := fun k => log_BandOf_is H.fb H.lb H.rb (H.mw s hs) (H.bw s hs) R k
  have f2 : ∀ k : List G_Contact → Option R, I_top_TopWorthIsNew.z67z c k = k c := fun k => cloneC_is (by omega) R k
  have f3 : ∀ k : List Int → Int → Option R, I_top_TopWorthIsNew.log_Dupes (c ++ [⟨100000000, 1, bandA b s.f_Hertz, s.f_Call, 0, 0, [], []⟩]) k = k r 0 := fun k => g2 R k
  have f4 : ∀ k : Bool → Option R, I_top_TopWorthIsNew.z56z r (c.length : Int) k = k false := fun k => by
   show z56z r (c.length : Int) k = _
   rw [z56z_is g0, hno]
  rw [top_TopWorthIsNew_L9, lt_drop hx, cond_true, inr_drop hx, at_drop hx, f1, bne_self_eq_false, cond_false, Bool.not_true, cond_false, f2, room1 c _ 96 (show c.length ≤ 1000000 by omega) (by omega), cond_true, f3, bne_self_eq_false, cond_false, f4, cond_false, w64_succ (show i < 4611686018427387904 by omega)]
  exact ih
theorem z80z_is (R : Type) (k : Bool → Option R) : z80z k = k true := by
 have h1 : ∀ k : List Int → Int → Option R, I_z80z.log_Dupes [rdC1, rdC2] k = k [1] 0 := fun k => rd_dupes R k
 have h3 : ∀ k : List G_Place → Int → Option R, I_z80z.club_Table [rdE] [99] k = k [⟨1, 5, [107, 49, 97, 98]⟩] 0 := fun k => rd_table R k
 have h4 : ∀ k : Int → Int → Option R, I_z80z.net_Next [rdD] 0 k = k 2 0 := fun k => rd_next R k
 show I_z80z.log_Dupes [rdC1, rdC2] (fun r1 r2 => I_z80z.club_Table [rdE] [99] (fun r3 r4 => I_z80z.net_Next [rdD] 0 (fun r5 r6 => (bif (r2 == 0) then (bif (r4 == 0) then (bif (r6 == 0) then (bif ((r1.length : Int) == 1) then (bif ((r3.length : Int) == 1) then k (r5 == 2) else k false) else k false) else k false) else k false) else k false)))) = _
 rw [h1, h3, h4]
 rfl
theorem top_TopWorthIsNew_true (l : List Int) (R : Type) (k : Bool → Option R) : top_TopWorthIsNew l k = k true := by
 obtain ⟨b, s1, z1, hb, e1⟩ := z32z_gives (sOk0 l) (by omega)
 obtain ⟨lb, fb⟩ := right_fine hb
 have rb := right_faultB hb
 obtain ⟨n, s2, n1, n2, z2, e2⟩ := z70z_gives z1 0 12 (by omega) (by omega) (by omega) (by omega) (by omega)
 obtain ⟨n, rfl⟩ : ∃ q : Nat, n = (q : Int) := ⟨n.toNat, by omega⟩
 obtain ⟨x, s3, z3, lx, hx, fx, e3⟩ := z30z_gives z2 (by omega) n (by omega)
 obtain ⟨q, s4, q1, q2, z4, e4⟩ := z70z_gives z3 0 8 (by omega) (by omega) (by omega) (by omega) (by omega)
 obtain ⟨q, rfl⟩ : ∃ p : Nat, q = (p : Int) := ⟨q.toNat, by omega⟩
 obtain ⟨c, s5, z5, lc, hc, fc, e5⟩ := RightContacts_gives z4 (by omega) q (by omega)
 have hq : lifeB 86400000 200 = true := by
  unfold lifeB momB
  rw [inB_is.2 ⟨by omega, by omega⟩, inB_is.2 ⟨by omega, by omega⟩]; rfl
 have hh : InM 14000000 := ⟨by omega, by omega⟩
 have hle := heardS_len b 86400000 200 x
 have hwl := worthS_len b c 1 200 14000000 (heardS b 86400000 200 x)
 have hmx := faultS_mid fx
 have w1 : ∀ k : List G_Spot → Int → Option R, I_top_TopWorthIsNew.band_Worth b x c 1 86400000 200 14000000 k = k (worthS b c 1 200 14000000 (heardS b 86400000 200 x)) 0 := fun k => by
  show band_Worth b x c 1 86400000 200 14000000 k = _
  rw [band_Worth_is fb hx hc (by omega) (by omega) (by omega), rb, fx, fc, hq, inB_is.2 hh]; rfl
 have v1 : ∀ k : List G_Band → G_Stream → Option R, I_top_TopWorthIsNew.z32z ⟨l, 0⟩ k = k b s1 := fun k => e1 R k
 have v2 : ∀ k : Int → G_Stream → Option R, I_top_TopWorthIsNew.z70z s1 0 12 k = k n s2 := fun k => e2 R k
 have v3 : ∀ k : List G_Spot → G_Stream → Option R, I_top_TopWorthIsNew.z30z s2 n k = k x s3 := fun k => e3 R k
 have v4 : ∀ k : Int → G_Stream → Option R, I_top_TopWorthIsNew.z70z s3 0 8 k = k q s4 := fun k => e4 R k
 have v5 : ∀ k : List G_Contact → G_Stream → Option R, I_top_TopWorthIsNew.z29z s4 q k = k c s5 := fun k => e5 R k
 have v6 : ∀ k : List G_Contact → Option R, I_top_TopWorthIsNew.z67z c k = k c := fun k => cloneC_is (by omega) R k
 have v7 : ∀ k : List G_Contact → Option R, I_top_TopWorthIsNew.z10z c k = k (c.filter (fun x => !lateC x)) := fun k => delN_is (by omega) R k
 have v8 : ∀ k : Bool → Option R, I_top_TopWorthIsNew.z80z k = k true := fun k => z80z_is R k
 obtain ⟨p1, p2⟩ := faultL_parts fc (by omega)
 have hfl := List.length_filter_le (fun x => !lateC x) c
 have hW : ∀ s ∈ worthS b c 1 200 14000000 (heardS b 86400000 200 x), s ∈ heardS b 86400000 200 x ∧ wasW b c 200 1 s = false := fun s hs => by
  unfold worthS at hs
  rw [sortI_mem, List.mem_filter] at hs
  exact ⟨hs.1, by simpa using hs.2⟩
 have H : TopOk b (c.filter (fun x => !lateC x)) (worthS b c 1 200 14000000 (heardS b 86400000 200 x)) := {
  fb := fb
  lb := by omega
  rb := rb
  kb := fun y hy => keys4 y (hb.subset hy)
  fc := fun y hy => hc y (List.mem_filter.1 hy).1
  ac := fun y hy => by
   have := (List.mem_filter.1 hy).2
   unfold lateC at this
   simpa using this
  gc := faultL_of (fun y hy => p1 y (List.mem_filter.1 hy).1) (p2.filter _) (by omega)
  lc := by omega
  fw := fun s hs => hx s (heardS_band (hW s hs).1).1
  mw := fun s hs => hmx s (heardS_band (hW s hs).1).1
  cw := fun s hs => chkS_call (faultS_chk fx s (heardS_band (hW s hs).1).1)
  bw := fun s hs => heardS_mid s (hW s hs).1
  nw := fun s hs => by
   rw [List.any_eq_false]
   intro o ho he
   have hk := of_decide_eq_true he
   obtain ⟨o1, o2⟩ := List.mem_filter.1 ho
   unfold keyW newW at hk
   simp only [G_log_worked.mk.injEq] at hk
   have hw := (hW s hs).2
   unfold wasW at hw
   have := List.any_eq_false.1 hw o o1
   unfold workedC at this
   unfold lateC at o2
   have ho2 : o.f_At ≤ 200 := by simpa using o2
   rw [hk.1, hk.2.1, hk.2.2, decide_eq_true ho2] at this
   simp at this
  lw := by omega }
 have L := top_loop H (worthS b c 1 200 14000000 (heardS b 86400000 200 x)) NN 0 rfl (by have := NN_ok; omega) R (fun e38 => k e38) (k true)
 show top_TopWorthIsNew_ I_top_TopWorthIsNew l k = _
 unfold top_TopWorthIsNew_
 rw [v1, v2, v3, v4, v5, w1, bne_self_eq_false, cond_false, v6, v7, v8]
 exact L
end Go.Am
