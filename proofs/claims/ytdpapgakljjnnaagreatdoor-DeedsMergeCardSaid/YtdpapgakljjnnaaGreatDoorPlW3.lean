/- The plain law, in Lean alone: W3, W4, W5. No condition: lemmas for the claim. -/
import Derived.Test.YtdpapgakljjnnaaGreatDoorPlW1
import Derived.Test.YtdpapgakljjnnaaGreatDoorPlS1
set_option linter.unusedVariables false
set_option linter.unusedSectionVars false
set_option linter.unusedSimpArgs false
set_option maxRecDepth 100000
namespace Go.Am
open Go Go.Proofs
variable [Fuel]
def undK (w : G_net_own) : List G_Deed → List Bool → Bool
 | y :: ys, b :: bs => (b && (y.f_Kind == 5 && decide ((⟨y.f_Of, y.f_Other⟩ : G_net_own) = w))) || undK w ys bs
 | _, _ => false
def cntsD : List G_Deed → List Bool
 | [] => []
 | x :: xs => (!undK (ownD x) xs (cntsD xs)) :: cntsD xs
def idxD : Nat → List Bool → List Int
 | _, [] => []
 | o, b :: bs => bif b then (o : Int) :: idxD (o + 1) bs else idxD (o + 1) bs
theorem cntsD_len : ∀ l : List G_Deed, (cntsD l).length = l.length
 | [] => rfl
 | x :: xs => by rw [cntsD, List.length_cons, List.length_cons, cntsD_len xs]
theorem idxD_len : ∀ (bs : List Bool) (o : Nat), (idxD o bs).length ≤ bs.length
 | [], _ => Nat.le_refl _
 | b :: bs, o => by
  have := idxD_len bs (o + 1)
  cases b <;> simp only [idxD, cond_true, cond_false, List.length_cons] <;> omega
theorem undK_cons (w : G_net_own) (y : G_Deed) (ys : List G_Deed) (b : Bool) (bs : List Bool) : undK w (y :: ys) (b :: bs) = ((b && (y.f_Kind == 5 && decide ((⟨y.f_Of, y.f_Other⟩ : G_net_own) = w))) || undK w ys bs) := rfl
theorem own5 (x y : G_Deed) : decide ((⟨y.f_Of, y.f_Other⟩ : G_net_own) = ownD x) = (y.f_Of == x.f_Site && y.f_Other == x.f_No) := by
 rw [Bool.eq_iff_iff]
 simp [ownD]
theorem counts_loop (t : List G_Deed) (hl : t.length ≤ 1000) (q : Nat) (i : Nat) (x : G_Deed) (hx : t[i]? = some x)
  (hq : ∀ (k : Nat) (y : G_Deed) (ys : List G_Deed), i < k → t.drop k = y :: ys → ∀ (R : Type) (K : Bool → Option R), rec_z9z q (k : Int) t t K = K (!undK (ownD y) ys (cntsD ys))) :
  ∀ (ys : List G_Deed) (n k : Nat), i < k → t.drop k = ys → ys.length < n → ∀ (R : Type) (e0 : Bool → Option R) (e1 : Option R),
   z9z_L2 (IR_z9z q) n (i : Int) t t (k : Int) e0 e1 = bif undK (ownD x) ys (cntsD ys) then e0 false else e1
 | _, 0, _, _, _, h, _, _, _ => by omega
 | [], n + 1, k, hi, h, _, R, e0, e1 => by rw [z9z_L2, ge_drop h]; rfl
 | y :: ys, n + 1, k, hi, h, hn, R, e0, e1 => by
  have h' := drop_cons h
  have ih := counts_loop t hl q i x hx hq ys n (k + 1) (by omega) h'.2.2.1 (Nat.lt_of_succ_lt_succ (by simpa only [List.length_cons] using hn)) R e0 e1
  have hr : ∀ K : Bool → Option R, (IR_z9z q).z9z (k : Int) t t K = K (!undK (ownD y) ys (cntsD ys)) := fun K => hq k y ys hi h R K
  have gx : ∀ K : G_Deed → Option R, get_ t (i : Int) K = K x := fun K => get_nat hx K
  rw [z9z_L2, lt_drop h, cond_true]
  simp only [get_drop h, gx, hr, w64_succ (show k < 4611686018427387904 by omega), ih, cntsD, undK_cons, own5]
  cases y.f_Kind == 5 <;> cases y.f_Of == x.f_Site <;> cases y.f_Other == x.f_No <;> cases undK (ownD y) ys (cntsD ys) <;> rfl
theorem counts_rec (t : List G_Deed) (hl : t.length ≤ 1000) : ∀ (q i : Nat) (x : G_Deed) (xs : List G_Deed), t.drop i = x :: xs → xs.length < q → ∀ (R : Type) (K : Bool → Option R), rec_z9z q (i : Int) t t K = K (!undK (ownD x) xs (cntsD xs))
 | 0, _, _, _, _, h, _, _ => by omega
 | q + 1, i, x, xs, h, hn, R, K => by
  have h' := drop_cons h
  have hL := counts_loop t hl q i x h'.1 (fun k y ys hk hy R K => by
   refine counts_rec t hl q k y ys hy ?_ R K
   have e1 := drop_cons hy
   have e2 := h'.2.2.2
   omega) xs NN (i + 1) (by omega) h'.2.2.1 (by have := NN_ok; omega) R (fun e => K e) (K true)
  show z9z_L2 (IR_z9z q) NN (i : Int) t t (w64 ((i : Int) + 1)) (fun e => K e) (K true) = _
  rw [w64_succ (show i < 4611686018427387904 by omega), hL]
  cases undK (ownD x) xs (cntsD xs) <;> rfl
theorem counts_is (t : List G_Deed) (hl : t.length ≤ 1000) {i : Nat} {x : G_Deed} {xs : List G_Deed} (h : t.drop i = x :: xs) (R : Type) (K : Bool → Option R) : z9z (i : Int) t t K = K (!undK (ownD x) xs (cntsD xs)) := by
 have h' := drop_cons h
 exact counts_rec t hl (NN + 1) i x xs h (by have := NN_ok; omega) R K
theorem till_loop (d : List G_Deed) (hl : d.length ≤ 1000) (at0 : Int) : ∀ (xs : List G_Deed) (n i : Nat) (out : List G_Deed), d.drop i = xs → xs.length < n → out.length ≤ i → ∀ (R : Type) (e0 : List G_Deed → Option R),
  z5z_L3 I_z5z n at0 d (d.length : Int) (i : Int) out e0 = e0 (out ++ xs.filter fun x => decide (x.f_At ≤ at0))
 | _, 0, _, _, _, h, _, _, _ => by omega
 | [], n + 1, i, out, h, _, _, R, e0 => by rw [z5z_L3, ge_drop h]; simp
 | x :: xs, n + 1, i, out, h, hn, ho, R, e0 => by
  have h' := drop_cons h
  have hn' : xs.length < n := Nat.lt_of_succ_lt_succ (by simpa only [List.length_cons] using hn)
  have hw := w64_succ (show i < 4611686018427387904 by omega)
  rw [z5z_L3, lt_drop h, cond_true, get_drop h, hw, List.filter_cons]
  cases ha : decide (x.f_At ≤ at0) with
  | true =>
   rw [cond_true, room1 out x 176 (by omega) (by omega), cond_true, till_loop d hl at0 xs n (i + 1) (out ++ [x]) h'.2.2.1 hn' (by simp; omega)]
   simp
  | false =>
   rw [cond_false, till_loop d hl at0 xs n (i + 1) out h'.2.2.1 hn' (by omega)]
   simp
theorem idx_loop (t : List G_Deed) (hl : t.length ≤ 1000) : ∀ (xs : List G_Deed) (n i : Nat) (out : List Int), t.drop i = xs → xs.length < n → out.length ≤ i → ∀ (R : Type) (e0 : List Int → Option R),
  z5z_L12 I_z5z n t (t.length : Int) (i : Int) out e0 = e0 (out ++ idxD i (cntsD xs))
 | _, 0, _, _, _, h, _, _, _ => by omega
 | [], n + 1, i, out, h, _, _, R, e0 => by rw [z5z_L12, ge_drop h]; simp [cntsD, idxD]
 | x :: xs, n + 1, i, out, h, hn, ho, R, e0 => by
  have h' := drop_cons h
  have hn' : xs.length < n := Nat.lt_of_succ_lt_succ (by simpa only [List.length_cons] using hn)
  have hw := w64_succ (show i < 4611686018427387904 by omega)
  have hc : ∀ K : Bool → Option R, I_z5z.z9z (i : Int) t t K = K (!undK (ownD x) xs (cntsD xs)) := fun K => counts_is t hl h R K
  rw [z5z_L12, lt_drop h, cond_true, hc, hw, cntsD, idxD]
  cases undK (ownD x) xs (cntsD xs) with
  | false =>
   rw [Bool.not_false, cond_true, room1 out (i : Int) 8 (by omega) (by omega), cond_true, idx_loop t hl xs n (i + 1) (out ++ [(i : Int)]) h'.2.2.1 hn' (by simp; omega), cond_true, List.append_assoc]
   rfl
  | true => rw [Bool.not_true, cond_false, idx_loop t hl xs n (i + 1) out h'.2.2.1 hn' (by omega), cond_false]
def tillD (d : List G_Deed) (at0 : Int) : List G_Deed := d.filter fun x => decide (x.f_At ≤ at0)
def countD (d : List G_Deed) (at0 : Int) : List Int := idxD 0 (cntsD (tillD d at0))
theorem tillD_len (d : List G_Deed) (at0 : Int) : (tillD d at0).length ≤ d.length := List.length_filter_le _ _
theorem z5z_is {d : List G_Deed} (hl : d.length ≤ 1000) (at0 : Int) (R : Type) (k : List Int → Option R) : z5z d at0 k = k (countD d at0) := by
 have l2 := tillD_len d at0
 have h1 := till_loop d hl at0 d NN 0 [] rfl (by have := NN_ok; omega) (by simp) R (fun e10 => (z5z_L12 I_z5z NN e10 (e10.length : Int) 0 [] (fun e17 => k e17)))
 have h2 := idx_loop (tillD d at0) (by omega) (tillD d at0) NN 0 [] rfl (by have := NN_ok; omega) (by simp) R (fun e17 => k e17)
 exact h1.trans h2
theorem cmpD_at {a b : G_Deed} (h : cmpD a b < 0) : a.f_At ≤ b.f_At := by
 unfold cmpD at h
 rw [orL] at h
 cases hc : cmpI a.f_At b.f_At != 0 with
 | true =>
  rw [hc, cond_true] at h
  rcases Int.lt_or_le b.f_At a.f_At with q | q
  ·unfold cmpI at h
   rw [decide_eq_false (show ¬ a.f_At < b.f_At by omega), decide_eq_true (show a.f_At > b.f_At by omega)] at h
   simp at h
  ·exact q
 | false =>
  have := cmpI_zero.1 (show cmpI a.f_At b.f_At = 0 by simpa using hc)
  omega
theorem at_split (at0 : Int) : ∀ d : List G_Deed, d.Pairwise (fun a b => a.f_At ≤ b.f_At) → ∃ b : List G_Deed, d = tillD d at0 ++ b ∧ (∀ x ∈ b, at0 < x.f_At) ∧ ∀ x ∈ tillD d at0, x.f_At ≤ at0
 | [], _ => ⟨[], rfl, fun x h => (by cases h), fun x h => (by cases h)⟩
 | x :: d, h => by
  obtain ⟨h1, h2⟩ := List.pairwise_cons.1 h
  obtain ⟨b, e, g1, g2⟩ := at_split at0 d h2
  cases ha : decide (x.f_At ≤ at0) with
  | true =>
   have ht : tillD (x :: d) at0 = x :: tillD d at0 := by unfold tillD; rw [List.filter_cons, ha]; rfl
   refine ⟨b, by rw [ht, List.cons_append, ← e], g1, fun y hy => ?_⟩
   rw [ht] at hy
   rcases List.mem_cons.1 hy with rfl | hy
   ·exact of_decide_eq_true ha
   ·exact g2 y hy
  | false =>
   have hn : at0 < x.f_At := by have := of_decide_eq_false ha; omega
   have hall : ∀ y ∈ x :: d, at0 < y.f_At := fun y hy => by
    rcases List.mem_cons.1 hy with rfl | hy
    ·exact hn
    ·have := h1 y hy; omega
   have ht : tillD (x :: d) at0 = [] := List.filter_eq_nil_iff.2 fun y hy => by have := hall y hy; simp; omega
   exact ⟨x :: d, by rw [ht]; rfl, hall, fun y hy => by rw [ht] at hy; cases hy⟩
theorem late_loop (a b : List G_Deed) (at0 : Int) (hb : ∀ x ∈ b, at0 < x.f_At) : ∀ (j : Nat) (m : List (G_net_own × Bool)) (out : List Int), j ≤ b.length → ∀ (R : Type) (e0 : Int → List (G_net_own × Bool) → List Int → Option R),
  z14z_L6 I_z14z (a.length + j) (a ++ b) at0 m out e0 = z14z_L6 I_z14z a.length (a ++ b) at0 m out e0
 | 0, _, _, _, _, _ => rfl
 | j + 1, m, out, hj, R, e0 => by
  have hx : (a ++ b)[a.length + j]? = some b[j] := by rw [List.getElem?_append_right (by omega), show a.length + j - a.length = j by omega]; exact List.getElem?_eq_getElem (by omega)
  have hm := hb b[j] (List.getElem_mem (by omega))
  rw [show a.length + (j + 1) = (a.length + j) + 1 by omega, z14z_L6, hx]
  simp only
  rw [decide_eq_true (show b[j].f_At > at0 by omega), cond_true]
  exact late_loop a b at0 hb j m out (by omega) R e0
theorem back_loop (a b : List G_Deed) (at0 : Int) (ha : ∀ x ∈ a, x.f_At ≤ at0) (hl : a.length ≤ 1000) : ∀ (n : Nat) (m : List (G_net_own × Bool)), n ≤ a.length → (∀ w, (mget_net_own_bool w m).getD false = undK w (a.drop n) (cntsD (a.drop n))) →
  ∃ m' : List (G_net_own × Bool), ∀ (R : Type) (e0 : Int → List (G_net_own × Bool) → List Int → Option R), z14z_L6 I_z14z n (a ++ b) at0 m (idxD n (cntsD (a.drop n))).reverse e0 = e0 at0 m' (idxD 0 (cntsD a)).reverse
 | 0, m, _, _ => ⟨m, fun R e0 => by rw [z14z_L6, List.drop_zero]⟩
 | n + 1, m, hn, hm => by
  have hx : (a ++ b)[n]? = some a[n] := by rw [List.getElem?_append_left (by omega)]; exact List.getElem?_eq_getElem (by omega)
  have hd : a.drop n = a[n] :: a.drop (n + 1) := List.drop_eq_getElem_cons (by omega)
  have hat := ha a[n] (List.getElem_mem (by omega))
  generalize a[n] = x at hx hd hat
  have hmx : (mget_net_own_bool ⟨x.f_Site, x.f_No⟩ m).getD false = undK (ownD x) (a.drop (n + 1)) (cntsD (a.drop (n + 1))) := hm (ownD x)
  have hc : cntsD (a.drop n) = (!undK (ownD x) (a.drop (n + 1)) (cntsD (a.drop (n + 1)))) :: cntsD (a.drop (n + 1)) := by rw [hd, cntsD]
  have hlen : (idxD (n + 1) (cntsD (a.drop (n + 1)))).reverse.length ≤ 1000 := by
   have h1 := idxD_len (cntsD (a.drop (n + 1))) (n + 1)
   rw [cntsD_len, List.length_drop] at h1
   rw [List.length_reverse]; omega
  have hroom := room1 (idxD (n + 1) (cntsD (a.drop (n + 1)))).reverse (n : Int) 8 (show _ ≤ 1000000 by omega) (by omega)
  cases hu : undK (ownD x) (a.drop (n + 1)) (cntsD (a.drop (n + 1))) with
  | true =>
   rw [hu] at hmx hc
   obtain ⟨m', g⟩ := back_loop a b at0 ha hl n m (by omega) (fun w => by rw [hm w, hc, hd, undK_cons]; rfl)
   refine ⟨m', fun R e0 => ?_⟩
   have he : idxD n (cntsD (a.drop n)) = idxD (n + 1) (cntsD (a.drop (n + 1))) := by rw [hc]; rfl
   rw [z14z_L6, hx]
   simp only
   rw [decide_eq_false (show ¬ x.f_At > at0 by omega), cond_false, hmx, cond_true, ← he]
   exact g R e0
  | false =>
   rw [hu] at hmx hc
   have he : (idxD n (cntsD (a.drop n))).reverse = (idxD (n + 1) (cntsD (a.drop (n + 1)))).reverse ++ [(n : Int)] := by
    rw [hc]
    show ((n : Int) :: idxD (n + 1) (cntsD (a.drop (n + 1)))).reverse = _
    rw [List.reverse_cons]
   cases hk : x.f_Kind == 5 with
   | true =>
    obtain ⟨m', g⟩ := back_loop a b at0 ha hl n (mset_net_own_bool ⟨x.f_Of, x.f_Other⟩ true m) (by omega) (fun w => by
     rw [hc, hd, undK_cons, hk, lm_get_net_own_bool, lm_set_net_own_bool, aget_aset keq_net_own_is]
     have hmw := hm w
     rw [lm_get_net_own_bool] at hmw
     by_cases e : w = ⟨x.f_Of, x.f_Other⟩
     ·rw [(keq_net_own_is _ _).2 e, decide_eq_true e.symm]; rfl
     ·have e2 : keq_net_own w ⟨x.f_Of, x.f_Other⟩ = false := by
       cases hq : keq_net_own w ⟨x.f_Of, x.f_Other⟩ with
       | false => rfl
       | true => exact absurd ((keq_net_own_is _ _).1 hq) e
      rw [e2, decide_eq_false (fun h => e h.symm), cond_false, hmw]; rfl)
    refine ⟨m', fun R e0 => ?_⟩
    rw [z14z_L6, hx]
    simp only
    rw [decide_eq_false (show ¬ x.f_At > at0 by omega), cond_false, hmx, cond_false, hroom, cond_true, hk, cond_true, ← he]
    exact g R e0
   | false =>
    obtain ⟨m', g⟩ := back_loop a b at0 ha hl n m (by omega) (fun w => by rw [hm w, hc, hd, undK_cons, hk]; rfl)
    refine ⟨m', fun R e0 => ?_⟩
    rw [z14z_L6, hx]
    simp only
    rw [decide_eq_false (show ¬ x.f_At > at0 by omega), cond_false, hmx, cond_false, hroom, cond_true, hk, cond_false, ← he]
    exact g R e0
theorem z14z_is {d : List G_Deed} (hr : RightD d) (hl : d.length ≤ 1000) (at0 : Int) (R : Type) (k : List Int → Option R) : z14z d at0 k = k (countD d at0) := by
 obtain ⟨b, e, hb, ha⟩ := at_split at0 d (hr.ord.imp fun {a b} h => cmpD_at h)
 have l2 := tillD_len d at0
 unfold countD
 generalize tillD d at0 = a at e ha l2
 subst e
 have hlen : (a ++ b).length = a.length + b.length := List.length_append
 obtain ⟨m', g⟩ := back_loop a b at0 ha (by omega) a.length [] (Nat.le_refl _) (fun w => by rw [List.drop_length, lm_get_net_own_bool]; rfl)
 rw [List.drop_length] at g
 have hcl := cntsD_len a
 have hil := idxD_len (cntsD a) 0
 have hraw : ∀ (R : Type) (k : List Int → Option R), raw_z14z I_z14z (a ++ b) at0 k = k (idxD 0 (cntsD a)) := fun R k => by
  have hrev : ∀ (k : List Int → Option R), I_z14z.z30z (idxD 0 (cntsD a)).reverse k = k (idxD 0 (cntsD a)) := fun k => by
   show z30z_ NN _ k = _
   rw [lk_revJ]
   refine (sRev_is (by rw [List.length_reverse]; omega) (by rw [List.length_reverse]; have := NN_ok; omega) k).trans ?_
   rw [List.reverse_reverse]
  show (bif decide ((a ++ b).length < 4611686018427387904) then (z14z_L6 I_z14z (a ++ b).length (a ++ b) at0 [] [] (fun e9 e10 e11 => I_z14z.z30z e11 (fun r12 => k r12))) else none) = _
  rw [decide_eq_true (by omega), cond_true, hlen, late_loop a b at0 hb b.length [] [] (Nat.le_refl _)]
  refine (g R _).trans ?_
  rw [hrev]
 show (raw_z14z I_z14z (a ++ b) at0 (fun z0 => some (inj0_z14z z0))).bind _ = _
 rw [hraw]
 rfl
end Go.Am
set_option linter.unusedVariables false
set_option linter.unusedSectionVars false
set_option linter.unusedSimpArgs false
set_option maxRecDepth 100000
namespace Go.Am
open Go Go.Proofs
variable [Fuel]
def numD (x : G_Deed) (n : Int) : G_Deed := ⟨x.f_Site, n, x.f_At, x.f_Kind, x.f_Contact, x.f_Band, x.f_Of, x.f_Other⟩
def lastNo (s : List UInt8) : List G_Deed → Int → Int
 | [], n => n
 | y :: ys, n => lastNo s ys (bif y.f_Site == s then (if y.f_No > n then y.f_No else n) else n)
theorem lastNo_in (s : List UInt8) : ∀ (ys : List G_Deed) (n : Int), (∀ y ∈ ys, TightD y) → 0 ≤ n → n ≤ 1099511627776 → 0 ≤ lastNo s ys n ∧ lastNo s ys n ≤ 1099511627776
 | [], n, _, h0, h1 => ⟨h0, h1⟩
 | y :: ys, n, h, h0, h1 => by
  have hy := (h y (by simp)).2
  refine lastNo_in s ys _ (fun z hz => h z (by simp [hz])) ?_ ?_
  ·cases y.f_Site == s
   ·exact h0
   ·simp only [cond_true]; split <;> omega
  ·cases y.f_Site == s
   ·exact h1
   ·simp only [cond_true]; split <;> omega
theorem w7_loop (d : List G_Deed) (hl : d.length ≤ 1000) (x : G_Deed) : ∀ (ys : List G_Deed) (n i : Nat) (no : Int), d.drop i = ys → ys.length < n → ∀ (R : Type) (e0 : List G_Deed → G_Deed → Option R),
  net_Write_L7 I_net_Write n d d (d.length : Int) (i : Int) (numD x no) e0 = e0 d (numD x (lastNo x.f_Site ys no))
 | _, 0, _, _, _, h, _, _ => by omega
 | [], n + 1, i, no, h, _, R, e0 => by rw [net_Write_L7, ge_drop h]; rfl
 | y :: ys, n + 1, i, no, h, hn, R, e0 => by
  have h' := drop_cons h
  have ih := fun no => w7_loop d hl x ys n (i + 1) no h'.2.2.1 (Nat.lt_of_succ_lt_succ (by simpa only [List.length_cons] using hn)) R e0
  rw [net_Write_L7, lt_drop h, cond_true, get_drop h, w64_succ (show i < 4611686018427387904 by omega)]
  show (bif y.f_Site == x.f_Site then net_Write_L7 I_net_Write n d d (d.length : Int) ((i + 1 : Nat) : Int) (numD x (if y.f_No > no then y.f_No else no)) e0 else net_Write_L7 I_net_Write n d d (d.length : Int) ((i + 1 : Nat) : Int) (numD x no) e0) = _
  rw [ih, ih, lastNo]
  cases y.f_Site == x.f_Site <;> rfl
theorem w4_loop (d : List G_Deed) (hl : d.length ≤ 1000) (x : G_Deed) : ∀ (ys : List G_Deed) (n i : Nat) (no : Int), d.drop i = ys → ys.length < n → ∀ (R : Type) (e0 : List G_Deed → G_Deed → Option R),
  z35z_L4 I_z35z n d d (d.length : Int) (i : Int) (numD x no) e0 = e0 d (numD x (lastNo x.f_Site ys no))
 | _, 0, _, _, _, h, _, _ => by omega
 | [], n + 1, i, no, h, _, R, e0 => by rw [z35z_L4, ge_drop h]; rfl
 | y :: ys, n + 1, i, no, h, hn, R, e0 => by
  have h' := drop_cons h
  have ih := fun no => w4_loop d hl x ys n (i + 1) no h'.2.2.1 (Nat.lt_of_succ_lt_succ (by simpa only [List.length_cons] using hn)) R e0
  rw [z35z_L4, lt_drop h, cond_true, get_drop h, w64_succ (show i < 4611686018427387904 by omega)]
  show (bif y.f_Site == x.f_Site then z35z_L4 I_z35z n d d (d.length : Int) ((i + 1 : Nat) : Int) (numD x (if y.f_No > no then y.f_No else no)) e0 else z35z_L4 I_z35z n d d (d.length : Int) ((i + 1 : Nat) : Int) (numD x no) e0) = _
  rw [ih, ih, lastNo]
  cases y.f_Site == x.f_Site <;> rfl
theorem Write_both {a : List G_Deed} (ha : RightD a) (ht : ∀ y ∈ a, TightD y) (la : a.length ≤ 400) {x : G_Deed} (hx : FineD x) : ∃ (r : List G_Deed) (e : Int), r.length ≤ 1000 ∧ (∀ (R : Type) (k : List G_Deed → Int → Option R), net_Write a x k = k r e) ∧ ∀ (R : Type) (k : List G_Deed → Int → Option R), z35z a x k = k r e := by
 have ca : ∀ (R : Type) (k : Int → Option R), I_net_Write.z7z a k = k 0 := fun R k => z7z_right ha (by omega) R k
 cases h0 : x.f_No != 0 with
 | true =>
  refine ⟨[], 3, by simp, fun R k => ?_, fun R k => ?_⟩
  ·show net_Write_ I_net_Write a x k = _
   unfold net_Write_
   rw [ca, bne_self_eq_false, cond_false, h0, cond_true]
  ·show z35z_ I_z35z a x k = _
   unfold z35z_
   rw [h0, cond_true]
 | false =>
  have hno : x.f_No = 0 := by simpa using h0
  have hxn : x = numD x 0 := by rw [← hno]; rfl
  obtain ⟨b1, b2⟩ := lastNo_in x.f_Site a 0 ht (by omega) (by omega)
  have hw : w64 (lastNo x.f_Site a 0 + 1) = lastNo x.f_Site a 0 + 1 := w64_eq (by omega) (by omega)
  generalize hN : lastNo x.f_Site a 0 = N at b1 b2 hw
  have hy : FineD (numD x (N + 1)) := ⟨hx.site, ⟨show _ ≤ N + 1 by omega, show N + 1 ≤ _ by omega⟩, hx.at1, hx.kind, hx.con, hx.band, hx.of1, hx.other⟩
  have p7 : ∀ (R : Type) (e0 : List G_Deed → G_Deed → Option R), net_Write_L7 I_net_Write I_net_Write.N a a (a.length : Int) 0 x e0 = e0 a (numD x N) := fun R e0 => by
   have := w7_loop a (by omega) x a NN 0 0 rfl (by have := NN_ok; omega) R e0
   rw [hN, ← hxn] at this
   exact this
  have p4 : ∀ (R : Type) (e0 : List G_Deed → G_Deed → Option R), z35z_L4 I_z35z I_z35z.N a a (a.length : Int) 0 x e0 = e0 a (numD x N) := fun R e0 => by
   have := w4_loop a (by omega) x a NN 0 0 rfl (by have := NN_ok; omega) R e0
   rw [hN, ← hxn] at this
   exact this
  have f1 : ∀ (R : Type) (k : Int → Option R), I_net_Write.net_formed (numD x (N + 1)) k = k (fD (numD x (N + 1))) := fun R k => net_formed_is hy R k
  have f2 : ∀ (R : Type) (k : Int → Option R), I_z35z.z46z (numD x (N + 1)) k = k (fD (numD x (N + 1))) := fun R k => z46z_is hy R k
  have c1 : ∀ (R : Type) (k : List G_Deed → Option R), I_net_Write.z33z a k = k a := fun R k => cloneD_is (by omega) R k
  have c2 : ∀ (R : Type) (k : List G_Deed → Option R), I_z35z.z33z a k = k a := fun R k => cloneD_is (by omega) R k
  have room := room1 a (numD x (N + 1)) 176 (by omega) (by omega)
  have l1 : decide ((a.length : Int) ≥ 2000) = false := decide_eq_false (by omega)
  have l2 : ((a.length : Int) == 2000) = false := by rw [beq_eq_false_iff_ne]; omega
  have unP : ∀ (R : Type) (k : List G_Deed → Int → Option R), net_Write a x k = bif fD (numD x (N + 1)) != 0 then k [] (fD (numD x (N + 1))) else bif decide ((a.length : Int) > 0) then get_ a (w64 ((a.length : Int) - 1)) fun x14 => z24z x14 (numD x (N + 1)) (fun r15 => bif decide (r15 ≥ 0) then k [] 7 else k (a ++ [numD x (N + 1)]) 0) else k (a ++ [numD x (N + 1)]) 0 := fun R k => by
   show net_Write_ I_net_Write a x k = _
   unfold net_Write_
   rw [ca, bne_self_eq_false, cond_false, h0, cond_false, p7]
   show I_net_Write.net_formed (numD x (w64 (N + 1))) _ = _
   simp only [show (numD x N).f_No = N from rfl, hw]
   rw [f1]
   simp only [l1, c1, cond_false]
   show (bif _ then _ else bif _ then _ else bif decide ((a.length + [numD x (N + 1)].length) * 176 ≤ roomBytes') then _ else _) = _
   simp only [show (⟨(numD x N).f_Site, N + 1, (numD x N).f_At, (numD x N).f_Kind, (numD x N).f_Contact, (numD x N).f_Band, (numD x N).f_Of, (numD x N).f_Other⟩ : G_Deed) = numD x (N + 1) from rfl, room, cond_true]
   rfl
  have unQ : ∀ (R : Type) (k : List G_Deed → Int → Option R), z35z a x k = bif fD (numD x (N + 1)) != 0 then k [] (fD (numD x (N + 1))) else bif decide ((a.length : Int) > 0) then get_ a (w64 ((a.length : Int) - 1)) fun x14 => z2z x14 (numD x (N + 1)) (fun r15 => bif decide (r15 ≥ 0) then k [] 7 else k (a ++ [numD x (N + 1)]) 0) else k (a ++ [numD x (N + 1)]) 0 := fun R k => by
   show z35z_ I_z35z a x k = _
   unfold z35z_
   rw [h0, cond_false, p4]
   show I_z35z.z46z (numD x (w64 (N + 1))) _ = _
   simp only [show (numD x N).f_No = N from rfl, hw]
   rw [f2]
   simp only [l2, c2, cond_false]
   show (bif _ then _ else bif _ then _ else bif decide ((a.length + [numD x (N + 1)].length) * 176 ≤ roomBytes') then _ else _) = _
   simp only [show (⟨(numD x N).f_Site, N + 1, (numD x N).f_At, (numD x N).f_Kind, (numD x N).f_Contact, (numD x N).f_Band, (numD x N).f_Of, (numD x N).f_Other⟩ : G_Deed) = numD x (N + 1) from rfl, room, cond_true]
   rfl
  generalize numD x (N + 1) = y at hy unP unQ
  cases q1 : fD y != 0 with
  | true => exact ⟨[], fD y, by simp, fun R k => by rw [unP, q1, cond_true], fun R k => by rw [unQ, q1, cond_true]⟩
  | false =>
   cases q2 : decide ((a.length : Int) > 0) with
   | false => exact ⟨a ++ [y], 0, by simp; omega, fun R k => by rw [unP, q1, q2, cond_false, cond_false], fun R k => by rw [unQ, q1, q2, cond_false, cond_false]⟩
   | true =>
    have hpos : 0 < a.length := by have := of_decide_eq_true q2; omega
    have hz : a[a.length - 1]? = some a[a.length - 1] := List.getElem?_eq_getElem (by omega)
    have hzf := ha.fine _ (List.mem_of_getElem? hz)
    generalize a[a.length - 1] = z at hz hzf
    have hw1 : w64 ((a.length : Int) - 1) = ((a.length - 1 : Nat) : Int) := w64_pred (by omega) hpos
    cases q3 : decide (cmpD z y ≥ 0) with
    | true => exact ⟨[], 7, by simp, fun R k => by rw [unP, q1, q2, cond_false, cond_true, hw1, get_nat hz, z24z_is, q3, cond_true], fun R k => by rw [unQ, q1, q2, cond_false, cond_true, hw1, get_nat hz, z2z_is hzf hy, q3, cond_true]⟩
    | false => exact ⟨a ++ [y], 0, by simp; omega, fun R k => by rw [unP, q1, q2, cond_false, cond_true, hw1, get_nat hz, z24z_is, q3, cond_false], fun R k => by rw [unQ, q1, q2, cond_false, cond_true, hw1, get_nat hz, z2z_is hzf hy, q3, cond_false]⟩
theorem Write_fault {a : List G_Deed} (ha : ∀ x ∈ a, FineD x) (la : a.length ≤ 400) (h0 : (faultD a != 0) = true) (x : G_Deed) (R : Type) (k : List G_Deed → Int → Option R) : net_Write a x k = k [] (faultD a) := by
 have ca : ∀ k : Int → Option R, I_net_Write.z7z a k = k (faultD a) := fun k => z7z_is ha (by omega) R k
 show net_Write_ I_net_Write a x k = _
 unfold net_Write_
 rw [ca, h0, cond_true]
theorem askedFault_is {a : List G_Deed} (ha : ∀ x ∈ a, FineD x) (la : a.length ≤ 400) (at0 : Int) (R : Type) (k : Int → Option R) : z49z a at0 k = k (orL [faultD a, bif momB at0 then 0 else 1]) := by
 have ca : ∀ k : Int → Option R, I_z49z.z7z a k = k (faultD a) := fun k => z7z_is ha (by omega) R k
 have cm : ∀ k : Bool → Option R, I_z49z.z47z at0 k = k (momB at0) := fun k => by
  show z47z at0 k = _
  rw [z47z_is]
 show z49z_ I_z49z a at0 k = _
 unfold z49z_
 rw [ca, cm]
 simp only [orL]
 cases faultD a != 0 <;> cases momB at0 <;> rfl
theorem orL_head {a b : Int} (h : orL [a, b] = 0) : a = 0 := orL_zero.1 h a (by simp)
noncomputable def wantC (a : List G_Deed) (at0 : Int) : List Int := bif orL [faultD a, bif momB at0 then 0 else 1] == 0 then countD a at0 else []
theorem countD_len {d : List G_Deed} (at0 : Int) : (countD d at0).length ≤ d.length := by
 have h1 := tillD_len d at0
 have h2 := cntsD_len (tillD d at0)
 have h3 := idxD_len (cntsD (tillD d at0)) 0
 unfold countD
 omega
theorem Counting_is {a : List G_Deed} (ha : ∀ x ∈ a, FineD x) (la : a.length ≤ 400) (at0 : Int) (R : Type) (k : List Int → Int → Option R) : z59z a at0 k = k (wantC a at0) (orL [faultD a, bif momB at0 then 0 else 1]) := by
 have ca : ∀ k : Int → Option R, I_z59z.z49z a at0 k = k (orL [faultD a, bif momB at0 then 0 else 1]) := fun k => askedFault_is ha la at0 R k
 show z59z_ I_z59z a at0 k = _
 unfold z59z_ wantC
 rw [ca]
 cases h : orL [faultD a, bif momB at0 then 0 else 1] == 0 with
 | false =>
  have : (orL [faultD a, bif momB at0 then 0 else 1] != 0) = true := by simp only [bne, h]; rfl
  rw [this, cond_true]; rfl
 | true =>
  have e : orL [faultD a, bif momB at0 then 0 else 1] = 0 := by simpa using h
  have hr := faultD_right ha (orL_head e)
  have cc : ∀ k : List Int → Option R, I_z59z.z14z a at0 k = k (countD a at0) := fun k => z14z_is hr (by omega) at0 R k
  rw [e, bne_self_eq_false, cond_false, cc]; rfl
end Go.Am
set_option linter.unusedVariables false
set_option linter.unusedSectionVars false
set_option linter.unusedSimpArgs false
set_option maxRecDepth 100000
namespace Go.Am
open Go Go.Proofs
variable [Fuel]
theorem law_netted_is (R : Type) (k : Bool → Option R) : law_netted k = k true := by
 have h4 : ∀ k : Int → Int → Option R, I_law_netted.net_Next [rdD] 0 k = k 2 0 := fun k => rd_next R k
 show I_law_netted.net_Next [rdD] 0 (fun r1 r2 => bif r2 == 0 then k (r1 == 2) else k false) = _
 rw [h4]
 rfl
theorem equalJ_is {l : List Int} (hl : l.length ≤ 1000000) (R : Type) (k : Bool → Option R) : z15z l l k = k true := by
 rw [li_z15z]
 exact sEqual_same (by have := NN_ok; omega) (by have := NN_ok; omega) (fun x => by simp) k
theorem DM_J27 {a : List G_Deed} (ha : ∀ y ∈ a, FineD y ∧ TightD y) (la : a.length ≤ 400) (n i : Int) (s : G_Stream) (ds : List G_Deed) {x : G_Deed} (hx : FineD x) (R : Type) (e0 : Bool → List G_Deed → Int → Int → Int → G_Stream → List G_Deed → Option R) (e1 : List G_Deed → Int → Int → Int → G_Stream → List G_Deed → Option R) :
  law_DeedsMerge_J27 I_law_DeedsMerge a (faultD a) n i s ds x e0 e1 = e1 a (faultD a) n i s ds := by
 have haf : ∀ y ∈ a, FineD y := fun y hy => (ha y hy).1
 have eq : ∀ (r : List G_Deed) (hr : r.length ≤ 1000) (k : Bool → Option R), I_law_DeedsMerge.z11z r r k = k true := fun r hr k => equalD_is (by omega) R k
 have j : ∀ (e : Int) (r : List G_Deed), r.length ≤ 1000 → law_DeedsMerge_J32 I_law_DeedsMerge a (faultD a) e e n i s ds r r e0 e1 = e1 a (faultD a) n i s ds := fun e r hr => by
  rw [law_DeedsMerge_J32, bne_self_eq_false, cond_false, eq r hr, law_DeedsMerge_J33]
  rfl
 cases h0 : faultD a != 0 with
 | true =>
  have w : ∀ k : List G_Deed → Int → Option R, I_law_DeedsMerge.net_Write a x k = k [] (faultD a) := fun k => Write_fault haf la h0 x R k
  have h1 : (faultD a == 0) = false := by simpa using h0
  rw [law_DeedsMerge_J27, w, h1, cond_false]
  exact j _ [] (by simp)
 | false =>
  have h1 : faultD a = 0 := by simpa using h0
  obtain ⟨r, e, hr, w1, w2⟩ := Write_both (faultD_right haf h1) (fun y hy => (ha y hy).2) la hx
  have p1 : ∀ k : List G_Deed → Int → Option R, I_law_DeedsMerge.net_Write a x k = k r e := fun k => w1 R k
  have p2 : ∀ k : List G_Deed → Int → Option R, I_law_DeedsMerge.z35z a x k = k r e := fun k => w2 R k
  have h2 : (faultD a == 0) = true := by simp [h1]
  rw [law_DeedsMerge_J27, p1, h2, cond_true, p2]
  exact j e r hr
theorem DM_J25 {a : List G_Deed} (ha : ∀ y ∈ a, FineD y ∧ TightD y) (la : a.length ≤ 400) (n i : Int) {b : Int} {s : G_Stream} (hs : SOk b s) (hb : b ≤ 1000000) (ds : List G_Deed) {x : G_Deed} (hx : FineD x) (hx2 : TightD x) : ∃ s', SOk (b + 1) s' ∧ ∀ (R : Type) (e0 : Bool → List G_Deed → Int → Int → Int → G_Stream → List G_Deed → Option R) (e1 : List G_Deed → Int → Int → Int → G_Stream → List G_Deed → Option R),
  law_DeedsMerge_J25 I_law_DeedsMerge a (faultD a) n i s ds x e0 e1 = e1 a (faultD a) n i s' ds := by
 obtain ⟨f, s', z, e⟩ := z37z_gives hs 2 (by omega) (by omega)
 refine ⟨s', z, fun R e0 e1 => ?_⟩
 have ef : ∀ k : Bool → G_Stream → Option R, I_law_DeedsMerge.z37z s 2 k = k f s' := fun k => e R k
 rw [law_DeedsMerge_J25, ef]
 cases f with
 | false => exact DM_J27 ha la n i s' ds hx R e0 e1
 | true =>
  obtain ⟨⟨t1, t2⟩, t3⟩ := hx2
  have hw : w64 (x.f_At + 80) = x.f_At + 80 := w64_eq (by omega) (by omega)
  rw [cond_true, hw]
  exact DM_J27 ha la n i s' ds (x := ⟨x.f_Site, x.f_No, x.f_At + 80, x.f_Kind, x.f_Contact, x.f_Band, x.f_Of, x.f_Other⟩) ⟨hx.site, hx.no, ⟨show _ ≤ x.f_At + 80 by omega, show x.f_At + 80 ≤ _ by omega⟩, hx.kind, hx.con, hx.band, hx.of1, hx.other⟩ R e0 e1
theorem DM_L20 {a : List G_Deed} (ha : ∀ y ∈ a, FineD y ∧ TightD y) (la : a.length ≤ 400) (ds : List G_Deed) (hds : ∀ y ∈ ds, FineD y ∧ TightD y) (hl : ds.length ≤ 1000) : ∀ (xs : List G_Deed) (n i : Nat) (b : Int) (s : G_Stream), ds.drop i = xs → xs.length < n → SOk b s → b + 2 * (xs.length : Int) ≤ 1000000 → ∀ (R : Type) (e0 : Bool → Option R) (e1 : Option R),
  law_DeedsMerge_L20 I_law_DeedsMerge n a (faultD a) (ds.length : Int) (i : Int) s ds e0 e1 = e1
 | _, 0, _, _, _, _, h, _, _, _, _, _ => by omega
 | [], n + 1, i, b, s, h, _, _, _, R, e0, e1 => by rw [law_DeedsMerge_L20, ge_drop h]; rfl
 | x :: xs, n + 1, i, b, s, h, hn, hs, hb, R, e0, e1 => by
  have h' := drop_cons h
  have hb' : b + 2 * ((xs.length : Int) + 1) ≤ 1000000 := by simpa using hb
  obtain ⟨hx, hx2⟩ := hds x (mem_drop h)
  obtain ⟨f, s1, z1, e1'⟩ := z37z_gives hs 12 (by omega) (by omega)
  have ef : ∀ k : Bool → G_Stream → Option R, I_law_DeedsMerge.z37z s 12 k = k f s1 := fun k => e1' R k
  have one : ∀ m : Int, m = 0 ∨ m = 1 → ∃ s2, SOk (b + 1 + 1) s2 ∧ ∀ (e0 : Bool → List G_Deed → Int → Int → Int → G_Stream → List G_Deed → Option R) (e1 : List G_Deed → Int → Int → Int → G_Stream → List G_Deed → Option R),
    law_DeedsMerge_J25 I_law_DeedsMerge a (faultD a) (ds.length : Int) (i : Int) s1 ds ⟨x.f_Site, m, x.f_At, x.f_Kind, x.f_Contact, x.f_Band, x.f_Of, x.f_Other⟩ e0 e1 = e1 a (faultD a) (ds.length : Int) (i : Int) s2 ds := fun m hm => by
   obtain ⟨s2, z2, e2⟩ := DM_J25 ha la (ds.length : Int) (i : Int) z1 (by omega) ds (x := ⟨x.f_Site, m, x.f_At, x.f_Kind, x.f_Contact, x.f_Band, x.f_Of, x.f_Other⟩) ⟨hx.site, ⟨show _ ≤ m by omega, show m ≤ _ by omega⟩, hx.at1, hx.kind, hx.con, hx.band, hx.of1, hx.other⟩ ⟨hx2.1, ⟨show _ ≤ m by omega, show m ≤ _ by omega⟩⟩
   exact ⟨s2, z2, fun e0 e1 => e2 R e0 e1⟩
  have hw : w64 ((i : Int) + 1) = ((i + 1 : Nat) : Int) := w64_succ (show i < 4611686018427387904 by omega)
  rw [law_DeedsMerge_L20, lt_drop h, cond_true, inr_drop h, at_drop h, ef]
  cases f with
  | true =>
   obtain ⟨s2, z2, e2⟩ := one 1 (.inr rfl)
   rw [cond_true, e2, law_DeedsMerge_J34, hw]
   exact DM_L20 ha la ds hds hl xs n (i + 1) (b + 1 + 1) s2 h'.2.2.1 (Nat.lt_of_succ_lt_succ (by simpa only [List.length_cons] using hn)) z2 (by omega) R e0 e1
  | false =>
   obtain ⟨s2, z2, e2⟩ := one 0 (.inl rfl)
   rw [cond_false, e2, law_DeedsMerge_J34, hw]
   exact DM_L20 ha la ds hds hl xs n (i + 1) (b + 1 + 1) s2 h'.2.2.1 (Nat.lt_of_succ_lt_succ (by simpa only [List.length_cons] using hn)) z2 (by omega) R e0 e1
theorem DM_J19 {a : List G_Deed} (ha : ∀ y ∈ a, FineD y ∧ TightD y) (la : a.length ≤ 400) {b : Int} {s : G_Stream} (hs : SOk b s) (hb : b ≤ 90000) (R : Type) (e0 : Bool → Option R) :
  law_DeedsMerge_J19 I_law_DeedsMerge (faultD a) s a e0 = e0 true := by
 obtain ⟨ds, s', z, hl, hd, e⟩ := z18z_tight hs (by omega) 2 (by omega)
 have es : ∀ k : List G_Deed → G_Stream → Option R, I_law_DeedsMerge.z18z s 2 k = k ds s' := fun k => e R k
 have en : ∀ k : Bool → Option R, I_law_DeedsMerge.law_netted k = k true := fun k => law_netted_is R k
 have el := DM_L20 ha la ds hd (by omega) ds NN 0 (b + 2000) s' rfl (by have := NN_ok; omega) z (by omega) R (fun e => e0 e) (I_law_DeedsMerge.law_netted fun r => e0 r)
 rw [law_DeedsMerge_J19, es]
 refine el.trans ?_
 rw [en]
theorem DM_J17 {a : List G_Deed} (ha : ∀ y ∈ a, FineD y ∧ TightD y) (la : a.length ≤ 400) {b : Int} {s : G_Stream} (hs : SOk b s) (hb : b ≤ 90000) (e E : Int) {m : List G_Deed} (hm : m.length ≤ 1000) {c : List Int} (hc : c.length ≤ 1000) (R : Type) (e0 : Bool → Option R) :
  law_DeedsMerge_J17 I_law_DeedsMerge (faultD a) e E e E s a m c m c e0 = e0 true := by
 have f1 : ∀ k : Int → Option R, I_law_DeedsMerge.z7z a k = k (faultD a) := fun k => z7z_is (fun y hy => (ha y hy).1) (by omega) R k
 have f2 : ∀ k : Bool → Option R, I_law_DeedsMerge.z11z m m k = k true := fun k => equalD_is (by omega) R k
 have f3 : ∀ k : Bool → Option R, I_law_DeedsMerge.z15z c c k = k true := fun k => equalJ_is (by omega) R k
 rw [law_DeedsMerge_J17, f1, bne_self_eq_false, cond_false, bne_self_eq_false, cond_false, f2, Bool.not_true, cond_false, bne_self_eq_false, cond_false, f3, Bool.not_true, law_DeedsMerge_J18, cond_false]
 exact DM_J19 ha la hs hb R e0
theorem DM_J14 {a : List G_Deed} (ha : ∀ y ∈ a, FineD y ∧ TightD y) (la : a.length ≤ 400) {b : Int} {s : G_Stream} (hs : SOk b s) (hb : b ≤ 90000) (at0 e : Int) {m : List G_Deed} (hm : m.length ≤ 1000) (R : Type) (e0 : Bool → Option R) :
  law_DeedsMerge_J14 I_law_DeedsMerge at0 (faultD a) e (orL [faultD a, bif momB at0 then 0 else 1]) e (orL [faultD a, bif momB at0 then 0 else 1]) s a m (wantC a at0) m e0 = e0 true := by
 have f1 : ∀ k : List Int → Option R, I_law_DeedsMerge.z5z a at0 k = k (countD a at0) := fun k => z5z_is (by omega) at0 R k
 have hcl := countD_len (d := a) at0
 rw [law_DeedsMerge_J14, wantC]
 cases h : orL [faultD a, bif momB at0 then 0 else 1] == 0 with
 | true =>
  simp only [cond_true]
  rw [f1]
  exact DM_J17 ha la hs hb e _ hm (by omega) R e0
 | false =>
  simp only [cond_false]
  exact DM_J17 ha la hs hb e _ hm (by simp) R e0
theorem DM_J14_1 {a : List G_Deed} (ha : ∀ y ∈ a, FineD y ∧ TightD y) (la : a.length ≤ 400) {b : Int} {s : G_Stream} (hs : SOk b s) (hb : b ≤ 90000) (at0 e : Int) {m : List G_Deed} (hm : m.length ≤ 1000) (R : Type) (e0 : Bool → Option R) :
  law_DeedsMerge_J14_1 I_law_DeedsMerge at0 (faultD a) e (orL [faultD a, bif momB at0 then 0 else 1]) e (orL [faultD a, bif momB at0 then 0 else 1]) s a m (wantC a at0) m e0 = e0 true := DM_J14 ha la hs hb at0 e hm R e0
theorem DM_end {a b : List G_Deed} (ha : ∀ y ∈ a, FineD y ∧ TightD y) (hb : ∀ y ∈ b, FineD y) (la : a.length ≤ 400) (lb : b.length ≤ 400) (at0 : Int) (s : G_Stream) (R : Type) (k : Bool → Option R)
  (J : Int → Int → Int → Int → Int → Int → G_Stream → List G_Deed → List G_Deed → List Int → List G_Deed → (Bool → Option R) → Option R)
  (hJ : ∀ e m, m.length ≤ 1000 → J at0 (faultD a) e (orL [faultD a, bif momB at0 then 0 else 1]) e (orL [faultD a, bif momB at0 then 0 else 1]) s a m (wantC a at0) m k = k true) :
  (I_law_DeedsMerge.z3z a fun r97 => I_law_DeedsMerge.net_Merge a b fun r100 r101 => I_law_DeedsMerge.z59z a at0 fun r104 r105 => I_law_DeedsMerge.z3z b fun r110 => I_law_DeedsMerge.law_errs [r97, r110] fun r111 => I_law_DeedsMerge.z54z at0 fun r112 => I_law_DeedsMerge.law_errs [r97, r112] fun r113 =>
   bif r111 == 0 then (I_law_DeedsMerge.Q_DeedsOf a b fun r138 r139 => J at0 r97 r101 r105 r139 r113 s a r100 r104 r138 k) else J at0 r97 r101 r105 r111 r113 s a r100 r104 [] k) = k true := by
 have haf : ∀ y ∈ a, FineD y := fun y hy => (ha y hy).1
 have q1 : ∀ k : Int → Option R, I_law_DeedsMerge.z3z a k = k (faultD a) := fun k => z3z_is haf (by omega) R k
 have q2 : ∀ k : Int → Option R, I_law_DeedsMerge.z3z b k = k (faultD b) := fun k => z3z_is hb (by omega) R k
 have q3 : ∀ k : List Int → Int → Option R, I_law_DeedsMerge.z59z a at0 k = k (wantC a at0) (orL [faultD a, bif momB at0 then 0 else 1]) := fun k => Counting_is haf la at0 R k
 have q4 : ∀ k : Int → Option R, I_law_DeedsMerge.law_errs [faultD a, faultD b] k = k (orL [faultD a, faultD b]) := fun k => law_errs_is _ (by simp) R k
 have q5 : ∀ k : Int → Option R, I_law_DeedsMerge.law_errs [faultD a, bif momB at0 then 0 else 1] k = k (orL [faultD a, bif momB at0 then 0 else 1]) := fun k => law_errs_is _ (by simp) R k
 have q6 : ∀ k : Int → Option R, I_law_DeedsMerge.z54z at0 k = k (bif momB at0 then 0 else 1) := fun k => z54z_is at0 R k
 rw [q1]
 cases h : orL [faultD a, faultD b] == 0 with
 | false =>
  have h1 : orL [faultD a, faultD b] ≠ 0 := by simpa using h
  have q7 : ∀ k : List G_Deed → Int → Option R, I_law_DeedsMerge.net_Merge a b k = k [] (orL [faultD a, faultD b]) := fun k => Merge_fault haf hb la lb h1 R k
  rw [q7, q3, q2, q4, q6, q5, h, cond_false]
  exact hJ _ [] (by simp)
 | true =>
  have h1 : orL [faultD a, faultD b] = 0 := by simpa using h
  have hz := orL_zero.1 h1
  obtain ⟨r, e, hr, m1, m2⟩ := Merge_both (faultD_right haf (hz _ (by simp))) (faultD_right hb (hz _ (by simp))) la lb
  have q7 : ∀ k : List G_Deed → Int → Option R, I_law_DeedsMerge.net_Merge a b k = k r e := fun k => m1 R k
  have q8 : ∀ k : List G_Deed → Int → Option R, I_law_DeedsMerge.Q_DeedsOf a b k = k r e := fun k => m2 R k
  rw [q7, q3, q2, q4, q6, q5, h, cond_true, q8]
  exact hJ e r hr
theorem law_DeedsMerge_true (l : List Int) (R : Type) (k : Bool → Option R) : law_DeedsMerge l k = k true := by
 obtain ⟨n, s1, n1, n2, z1, e1⟩ := z39z_gives (sOk0 l) 0 14 (by omega) (by omega) (by omega) (by omega) (by omega)
 obtain ⟨n, rfl⟩ : ∃ m : Nat, n = (m : Int) := ⟨n.toNat, by omega⟩
 obtain ⟨a, s2, z2, la, ha, e2⟩ := z18z_tight z1 (by omega) n (by omega)
 obtain ⟨q, s3, q1, q2, z3, e3⟩ := z39z_gives z2 0 6 (by omega) (by omega) (by omega) (by omega) (by omega)
 obtain ⟨q, rfl⟩ : ∃ m : Nat, q = (m : Int) := ⟨q.toNat, by omega⟩
 obtain ⟨b, s4, z4, lb, hb, e4⟩ := z18z_gives z3 (by omega) q (by omega)
 obtain ⟨at0, s5, hat, z5, e5'⟩ := z44z_gives z4 [0, 3, 10, 20, 40, 60, 60, (-1)] (by omega) (by simp) (by simp)
 have e5 : ∀ (R : Type) (k : Int → G_Stream → Option R), z55z s4 k = k at0 s5 := fun R k => by
  simp only [z55z, z55z_, I_z55z, e5']
 have j1 : ∀ (s : G_Stream), SOk 80000 s → ∀ e m, m.length ≤ 1000 → law_DeedsMerge_J14 I_law_DeedsMerge at0 (faultD a) e (orL [faultD a, bif momB at0 then 0 else 1]) e (orL [faultD a, bif momB at0 then 0 else 1]) s a m (wantC a at0) m k = k true := fun s hs e m hm => DM_J14 ha (by omega) hs (by omega) at0 e hm R k
 have j2 : ∀ (s : G_Stream), SOk 80000 s → ∀ e m, m.length ≤ 1000 → law_DeedsMerge_J14_1 I_law_DeedsMerge at0 (faultD a) e (orL [faultD a, bif momB at0 then 0 else 1]) e (orL [faultD a, bif momB at0 then 0 else 1]) s a m (wantC a at0) m k = k true := fun s hs e m hm => DM_J14_1 ha (by omega) hs (by omega) at0 e hm R k
 have f1 := fun (s : G_Stream) (hs : SOk 80000 s) (b : List G_Deed) (hb : ∀ y ∈ b, FineD y) (lb : b.length ≤ 400) => DM_end ha hb (by omega) lb at0 s R k (fun a b c d e f g h i j l k => law_DeedsMerge_J14 I_law_DeedsMerge a b c d e f g h i j l k) (j1 s hs)
 have f2 := fun (s : G_Stream) (hs : SOk 80000 s) (b : List G_Deed) (hb : ∀ y ∈ b, FineD y) (lb : b.length ≤ 400) => DM_end ha hb (by omega) lb at0 s R k (fun a b c d e f g h i j l k => law_DeedsMerge_J14_1 I_law_DeedsMerge a b c d e f g h i j l k) (j2 s hs)
 have j4 : ∀ (f : Bool) (s : G_Stream), SOk 50000 s → (f = true → 0 < a.length) →
   (∃ b' s', (∀ c ∈ b', FineD c) ∧ b'.length ≤ 400 ∧ SOk 80000 s' ∧ ∀ (R : Type) (e0 : Int → G_Stream → List G_Deed → List G_Deed → List G_Deed → Option R) (e1 : Int → G_Stream → List G_Deed → List G_Deed → Option R), law_DeedsMerge_J4 I_law_DeedsMerge at0 f s a b e0 e1 = e0 at0 s' a b b') ∨
   (∀ (R : Type) (e0 : Int → G_Stream → List G_Deed → List G_Deed → List G_Deed → Option R) (e1 : Int → G_Stream → List G_Deed → List G_Deed → Option R), law_DeedsMerge_J4 I_law_DeedsMerge at0 f s a b e0 e1 = e1 at0 s a b) := by
  intro f s hs hf
  cases f with
  | false => exact .inr fun R e0 e1 => by simp only [law_DeedsMerge_J4, cond_false]
  | true =>
   have hpos := hf rfl
   obtain ⟨r, s1, r1, r2, w1, f1⟩ := z34z_gives hs (a.length : Int) (by omega) (by omega)
   obtain ⟨g, s2, w2, f2⟩ := z37z_gives w1 4 (by omega) (by omega)
   have r3 := r2 (by omega)
   have hd : (decide (0 ≤ r) && decide (r ≤ (a.length : Int))) = true := by simp; omega
   have hdrop : ∀ c ∈ a.drop r.toNat, FineD c ∧ TightD c := fun c h => ha c (List.mem_of_mem_drop h)
   have hcl : ∀ (R : Type) (k : List G_Deed → Option R), z33z (a.drop r.toNat) k = k (a.drop r.toNat) := fun R k => cloneD_is (show (a.drop r.toNat).length ≤ 1000000 by simp; omega) R k
   cases g with
   | false =>
    refine .inl ⟨a.drop r.toNat, s2, fun c h => (hdrop c h).1, by simp; omega, w2.mono (by omega), fun R e0 e1 => ?_⟩
    simp only [law_DeedsMerge_J4, I_law_DeedsMerge, cond_true, f1, hd, hcl, f2, cond_false]
   | true =>
    obtain ⟨y, ys, hy⟩ : ∃ y ys, a.drop r.toNat = y :: ys := by
     cases hq : a.drop r.toNat with
     | nil => have := congrArg List.length hq; simp at this; omega
     | cons y ys => exact ⟨y, ys, rfl⟩
    rw [hy] at hdrop hcl
    obtain ⟨fy, ty⟩ := hdrop y (by simp)
    obtain ⟨⟨t1, t2⟩, t3⟩ := ty
    have hw : w64 (y.f_At + 1) = y.f_At + 1 := w64_eq (by omega) (by omega)
    refine .inl ⟨⟨y.f_Site, y.f_No, y.f_At + 1, y.f_Kind, y.f_Contact, y.f_Band, y.f_Of, y.f_Other⟩ :: ys, s2, fun c h => ?_, ?_, w2.mono (by omega), fun R e0 e1 => ?_⟩
    ·rcases List.mem_cons.1 h with rfl | h
     ·exact ⟨fy.site, fy.no, ⟨show _ ≤ y.f_At + 1 by omega, show y.f_At + 1 ≤ _ by omega⟩, fy.kind, fy.con, fy.band, fy.of1, fy.other⟩
     ·exact (hdrop c (by simp [h])).1
    ·have := congrArg List.length hy; simp at this ⊢; omega
    ·have i0 : ∀ {R : Type} (k : Option R), inr (y :: ys) 0 k = k := fun k => inr_nat (i := 0) (by simp) k
     have a0 : ∀ {R : Type} (k : G_Deed → Option R), at_ (y :: ys) 0 k = k y := fun k => at_nat (i := 0) rfl k
     simp only [law_DeedsMerge_J4, I_law_DeedsMerge, cond_true, f1, hd, hy, hcl, f2, i0, a0, hw]
     rfl
 have g1 : ∀ k : Int → G_Stream → Option R, I_law_DeedsMerge.z39z ⟨l, 0⟩ 0 14 k = k (n : Int) s1 := fun k => e1 R k
 have g2 : ∀ k : List G_Deed → G_Stream → Option R, I_law_DeedsMerge.z18z s1 (n : Int) k = k a s2 := fun k => e2 R k
 have g3 : ∀ k : Int → G_Stream → Option R, I_law_DeedsMerge.z39z s2 0 6 k = k (q : Int) s3 := fun k => e3 R k
 have g4 : ∀ k : List G_Deed → G_Stream → Option R, I_law_DeedsMerge.z18z s3 (q : Int) k = k b s4 := fun k => e4 R k
 have g5 : ∀ k : Int → G_Stream → Option R, I_law_DeedsMerge.z55z s4 k = k at0 s5 := fun k => e5 R k
 show law_DeedsMerge_ I_law_DeedsMerge l k = _
 unfold law_DeedsMerge_
 rw [g1, g2, g3, g4, g5]
 cases hd : decide ((a.length : Int) > 0) with
 | true =>
  obtain ⟨f, s7, z7, e7⟩ := z37z_gives z5 2 (by omega) (by omega)
  have g7 : ∀ k : Bool → G_Stream → Option R, I_law_DeedsMerge.z37z s5 2 k = k f s7 := fun k => e7 R k
  rw [cond_true, g7]
  rcases j4 f s7 (z7.mono (by omega)) (fun _ => by simpa using hd) with ⟨b', s', p1, p2, p4, p3⟩ | p3
  ·rw [p3]; exact f1 s' p4 b' p1 p2
  ·rw [p3]; exact f2 s7 (z7.mono (by omega)) b hb (by omega)
 | false =>
  rw [cond_false]
  rcases j4 false s5 (z5.mono (by omega)) (fun h => by cases h) with ⟨b', s', p1, p2, p4, p3⟩ | p3
  ·rw [p3]; exact f1 s' p4 b' p1 p2
  ·rw [p3]; exact f2 s5 (z5.mono (by omega)) b hb (by omega)
end Go.Am
