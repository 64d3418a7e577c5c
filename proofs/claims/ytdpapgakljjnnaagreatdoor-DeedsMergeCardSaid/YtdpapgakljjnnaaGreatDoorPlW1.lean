/- The plain law, in Lean alone: W1, W2. No condition: lemmas for the claim. -/
import Derived.Test.YtdpapgakljjnnaaGreatDoorPlV6
set_option linter.unusedVariables false
set_option linter.unusedSectionVars false
set_option linter.unusedSimpArgs false
set_option maxRecDepth 100000
namespace Go.Am
open Go Go.Proofs
variable [Fuel]
theorem net_formed_is {x : G_Deed} (h : FineD x) (R : Type) (k : Int → Option R) : net_formed x k = k (fD x) := by
 rw [← z46z_is h R k]
 have f1 := fun (R : Type) (k : Bool → Option R) => Q_Key_S h.site R k
 have f2 := fun (R : Type) (k : Bool → Option R) => Q_Key_S h.band R k
 have f3 := fun (R : Type) (k : Bool → Option R) => Q_Key_S h.of1 R k
 have f4 := fun (R : Type) (k : Int → Option R) => z58z_is h.con R k
 have p1 := fun (R : Type) (k : Bool → Option R) => kit_IsKey_S h.site R k
 have p2 := fun (R : Type) (k : Bool → Option R) => kit_IsKey_S h.band R k
 have p3 := fun (R : Type) (k : Bool → Option R) => kit_IsKey_S h.of1 R k
 have p4 := fun (R : Type) (k : Int → Option R) => z52z_is h.con R k
 have hL : net_formed x k = bif !keyB x.f_Site then k 5 else bif !inB x.f_No 1 1000000 then k 1 else bif !momB x.f_At then k 1 else bif !inB x.f_Kind 1 5 then k 4 else z41z x (fun r6 => bif r6 != 0 then k r6 else net_idle x (fun r7 => bif !r7 then k 3 else k 0)) := by
  simp only [net_formed, net_formed_, I_net_formed, p1, z43z_is, z47z_is]
 rw [hL]
 simp only [z46z, z46z_, I_z46z, f1, f2, f3, f4, Q_in_is, Q_Moment_is]
 cases a1 : keyB x.f_Site with
 | false => rfl
 | true =>
  cases a2 : inB x.f_No 1 1000000 with
  | false => rfl
  | true =>
   cases a3 : momB x.f_At with
   | false => rfl
   | true =>
    cases a4 : inB x.f_Kind 1 5 with
    | false => rfl
    | true =>
     simp only [Bool.not_true, cond_false]
     have hk := inB_is.1 a4
     have hk5 : x.f_Kind = 1 ∨ x.f_Kind = 2 ∨ x.f_Kind = 3 ∨ x.f_Kind = 4 ∨ x.f_Kind = 5 := by omega
     rcases hk5 with e | e | e | e | e
     ·simp only [z41z, z41z_, I_z41z, z66z, z66z_, I_z66z, p4, net_idle, net_idle_, e, beq_self_eq_true, show ((1 : Int) == 2) = false from rfl, show ((1 : Int) == 3) = false from rfl, show ((1 : Int) == 4) = false from rfl, show ((1 : Int) == 5) = false from rfl, cond_true, cond_false, eq_G_Deed, Bool.true_and, Bool.and_true]
      cases b1 : chk x.f_Contact != 0 with
      | true => simp only [cond_true, b1]
      | false =>
       cases decide (x.f_Contact.f_At > x.f_At) with
       | true => rfl
       | false => cases x.f_Band == [] <;> cases x.f_Of == [] <;> cases x.f_Other == 0 <;> rfl
     ·simp only [z41z, z41z_, I_z41z, p2, net_idle, net_idle_, e, beq_self_eq_true, show ((2 : Int) == 1) = false from rfl, show ((2 : Int) == 3) = false from rfl, show ((2 : Int) == 4) = false from rfl, show ((2 : Int) == 5) = false from rfl, cond_true, cond_false, eq_G_Deed, Bool.true_and, Bool.and_true]
      have hE : eq_G_Contact x.f_Contact ⟨0, 0, [], [], 0, 0, [], []⟩ = (x.f_Contact.f_At == 0 && (x.f_Contact.f_Mode == 0 && (x.f_Contact.f_Band == [] && (x.f_Contact.f_Call == [] && (x.f_Contact.f_Sent == 0 && (x.f_Contact.f_Heard == 0 && (x.f_Contact.f_Gave == [] && (x.f_Contact.f_Got == []))))))))  := by unfold eq_G_Contact; simp only [Bool.and_true]
      rw [hE]
      generalize (x.f_Contact.f_At == 0 && (x.f_Contact.f_Mode == 0 && (x.f_Contact.f_Band == [] && (x.f_Contact.f_Call == [] && (x.f_Contact.f_Sent == 0 && (x.f_Contact.f_Heard == 0 && (x.f_Contact.f_Gave == [] && (x.f_Contact.f_Got == [])))))))) = b
      cases keyB x.f_Band with
      | false => rfl
      | true => cases b <;> cases x.f_Of == [] <;> cases x.f_Other == 0 <;> rfl
     ·simp only [z41z, z41z_, I_z41z, z43z_is, net_idle, net_idle_, e, beq_self_eq_true, show ((3 : Int) == 1) = false from rfl, show ((3 : Int) == 2) = false from rfl, show ((3 : Int) == 4) = false from rfl, show ((3 : Int) == 5) = false from rfl, cond_true, cond_false, eq_G_Deed, Bool.true_and, Bool.and_true]
      have hE : eq_G_Contact x.f_Contact ⟨0, 0, [], [], x.f_Contact.f_Sent, 0, [], []⟩ = (x.f_Contact.f_At == 0 && (x.f_Contact.f_Mode == 0 && (x.f_Contact.f_Band == [] && (x.f_Contact.f_Call == [] && (x.f_Contact.f_Heard == 0 && (x.f_Contact.f_Gave == [] && (x.f_Contact.f_Got == [])))))))  := by unfold eq_G_Contact; simp only [beq_self_eq_true, Bool.true_and, Bool.and_true]
      rw [hE]
      generalize (x.f_Contact.f_At == 0 && (x.f_Contact.f_Mode == 0 && (x.f_Contact.f_Band == [] && (x.f_Contact.f_Call == [] && (x.f_Contact.f_Heard == 0 && (x.f_Contact.f_Gave == [] && (x.f_Contact.f_Got == []))))))) = b
      cases inB x.f_Contact.f_Sent 1 99999 with
      | false => rfl
      | true => cases b <;> cases x.f_Band == [] <;> cases x.f_Of == [] <;> cases x.f_Other == 0 <;> rfl
     ·simp only [z41z, z41z_, I_z41z, z43z_is, net_idle, net_idle_, e, beq_self_eq_true, show ((4 : Int) == 1) = false from rfl, show ((4 : Int) == 2) = false from rfl, show ((4 : Int) == 3) = false from rfl, show ((4 : Int) == 5) = false from rfl, cond_true, cond_false, eq_G_Deed, Bool.true_and, Bool.and_true]
      have hE : eq_G_Contact x.f_Contact ⟨0, 0, [], [], x.f_Contact.f_Sent, 0, [], []⟩ = (x.f_Contact.f_At == 0 && (x.f_Contact.f_Mode == 0 && (x.f_Contact.f_Band == [] && (x.f_Contact.f_Call == [] && (x.f_Contact.f_Heard == 0 && (x.f_Contact.f_Gave == [] && (x.f_Contact.f_Got == [])))))))  := by unfold eq_G_Contact; simp only [beq_self_eq_true, Bool.true_and, Bool.and_true]
      rw [hE]
      generalize (x.f_Contact.f_At == 0 && (x.f_Contact.f_Mode == 0 && (x.f_Contact.f_Band == [] && (x.f_Contact.f_Call == [] && (x.f_Contact.f_Heard == 0 && (x.f_Contact.f_Gave == [] && (x.f_Contact.f_Got == []))))))) = b
      cases inB x.f_Contact.f_Sent 1 99999 with
      | false => rfl
      | true => cases b <;> cases x.f_Band == [] <;> cases x.f_Of == [] <;> cases x.f_Other == 0 <;> rfl
     ·simp only [z41z, z41z_, I_z41z, p3, z43z_is, net_idle, net_idle_, e, beq_self_eq_true, show ((5 : Int) == 1) = false from rfl, show ((5 : Int) == 2) = false from rfl, show ((5 : Int) == 3) = false from rfl, show ((5 : Int) == 4) = false from rfl, cond_true, cond_false, eq_G_Deed, Bool.true_and, Bool.and_true]
      have hE : eq_G_Contact x.f_Contact ⟨0, 0, [], [], 0, 0, [], []⟩ = (x.f_Contact.f_At == 0 && (x.f_Contact.f_Mode == 0 && (x.f_Contact.f_Band == [] && (x.f_Contact.f_Call == [] && (x.f_Contact.f_Sent == 0 && (x.f_Contact.f_Heard == 0 && (x.f_Contact.f_Gave == [] && (x.f_Contact.f_Got == []))))))))  := by unfold eq_G_Contact; simp only [Bool.and_true]
      rw [hE]
      generalize (x.f_Contact.f_At == 0 && (x.f_Contact.f_Mode == 0 && (x.f_Contact.f_Band == [] && (x.f_Contact.f_Call == [] && (x.f_Contact.f_Sent == 0 && (x.f_Contact.f_Heard == 0 && (x.f_Contact.f_Gave == [] && (x.f_Contact.f_Got == [])))))))) = b
      cases keyB x.f_Of with
      | false => rfl
      | true =>
       cases inB x.f_Other 1 1000000 with
       | false => rfl
       | true => cases b <;> cases x.f_Band == [] <;> rfl
theorem PDeeds_loop4 (d : List G_Deed) (hf : ∀ c ∈ d, FineD c) (hl : d.length ≤ 1000) : ∀ (xs : List G_Deed) (n i : Nat) (p : Option G_Deed), d.drop i = xs → PrevAt d i p → xs.length < n → ∀ (R : Type) (e0 : List G_Deed → Int → Option R) (e1 : List G_Deed → Option R),
  z7z_L4 I_z7z n d d (d.length : Int) (i : Int) e0 e1 = bif faultDs p xs != 0 then e0 d (faultDs p xs) else e1 d
 | _, 0, _, _, _, _, h, _, _, _ => by omega
 | [], n + 1, i, p, h, _, _, R, e0, e1 => by rw [z7z_L4, ge_drop h]; rfl
 | c :: cs, n + 1, i, p, h, hp, hn, R, e0, e1 => by
  have h' := drop_cons h
  have hn' : cs.length < n := Nat.lt_of_succ_lt_succ (by simpa only [List.length_cons] using hn)
  have ih := PDeeds_loop4 d hf hl cs n (i + 1) (some c) h'.2.2.1 (prevAt_next h) hn' R e0 e1
  have hc := hf c (mem_drop h)
  have he : ∀ k : Int → Option R, I_z7z.net_formed c k = k (fD c) := fun k => net_formed_is hc R k
  rw [z7z_L4, lt_drop h, cond_true, get_drop h, he, w64_succ (show i < 4611686018427387904 by omega), ih]
  cases p with
  | none =>
   rw [faultDs_none]
   cases q0 : fD c != 0 with
   | true => simp only [cond_true, q0]
   | false =>
    rw [decide_eq_false (show ¬ ((i : Int) > 0) by unfold PrevAt at hp; omega)]; rfl
  | some q =>
   rw [faultDs_some]
   cases q0 : fD c != 0 with
   | true => simp only [cond_true, q0]
   | false =>
    obtain ⟨h0, ys, hq⟩ := hp
    have ho : ∀ (k : Int → Option R), I_z7z.z24z q c k = k (cmpD q c) := fun k => z24z_is q c R k
    simp only [cond_false]
    rw [decide_eq_true (show ((i : Int) > 0) by omega), cond_true, prev_drop hq h0 (by omega), ho]
    cases decide (cmpD q c ≥ 0) <;> rfl
theorem own_any (seen : List G_Deed) (c : G_Deed) : (seen.any fun o => decide (ownD o = ownD c)) = seen.any fun o => o.f_Site == c.f_Site && o.f_No == c.f_No := by
 congr 1
 funext o
 rw [Bool.eq_iff_iff]
 simp [ownD]
theorem PDeeds_loop14 (d : List G_Deed) (hl : d.length ≤ 1000) : ∀ (xs : List G_Deed) (n i : Nat) (m : List (G_net_own × Bool)), d.drop i = xs → xs.length < n → (∀ w, (mget_net_own_bool w m).getD false = (d.take i).any fun c => decide (ownD c = w)) → ∀ (R : Type) (e0 : Int → Option R) (e1 : Option R),
  z7z_L14 I_z7z n d (d.length : Int) (i : Int) m e0 e1 = bif dupD (d.take i) xs then e0 6 else e1
 | _, 0, _, _, _, h, _, _, _, _ => by omega
 | [], n + 1, i, m, h, _, _, R, e0, e1 => by rw [z7z_L14, ge_drop h]; rfl
 | c :: cs, n + 1, i, m, h, hn, hm, R, e0, e1 => by
  have h' := drop_cons h
  have hh : (mget_net_own_bool ⟨c.f_Site, c.f_No⟩ m).getD false = (d.take i).any fun o => o.f_Site == c.f_Site && o.f_No == c.f_No := (hm (ownD c)).trans (own_any _ c)
  have ih := PDeeds_loop14 d hl cs n (i + 1) (mset_net_own_bool ⟨c.f_Site, c.f_No⟩ true m) h'.2.2.1 (Nat.lt_of_succ_lt_succ (by simpa only [List.length_cons] using hn)) (fun w => by
   rw [take_drop' h, List.any_append, List.any_cons, List.any_nil, Bool.or_false, lm_get_net_own_bool, lm_set_net_own_bool, aget_aset keq_net_own_is]
   have hmw := hm w
   rw [lm_get_net_own_bool] at hmw
   by_cases e : w = ownD c
   ·have e2 : keq_net_own w ⟨c.f_Site, c.f_No⟩ = true := (keq_net_own_is _ _).2 e
    rw [e2, decide_eq_true e.symm]; simp
   ·have e2 : keq_net_own w ⟨c.f_Site, c.f_No⟩ = false := by
     cases hq : keq_net_own w ⟨c.f_Site, c.f_No⟩ with
     | false => rfl
     | true => exact absurd ((keq_net_own_is _ _).1 hq) e
    rw [e2, decide_eq_false (fun h => e h.symm), cond_false, Bool.or_false]
    exact hmw) R e0 e1
  rw [z7z_L14, lt_drop h, cond_true, get_drop h, hh, w64_succ (show i < 4611686018427387904 by omega), ih, dupD, take_drop' h]
  cases (d.take i).any fun o => o.f_Site == c.f_Site && o.f_No == c.f_No <;> rfl
theorem z7z_is {d : List G_Deed} (hf : ∀ c ∈ d, FineD c) (hl : d.length ≤ 1000) (R : Type) (k : Int → Option R) : z7z d k = k (faultD d) := by
 have unf : z7z d k = (z7z_L4 I_z7z NN d d (d.length : Int) 0 (fun e14 e15 => k e15) (fun e16 => (z7z_L14 I_z7z NN e16 (e16.length : Int) 0 [] (fun e23 => k e23) (k 0)))) := by
  show (bif (decide ((d.length : Int) > 2000)) then k 2 else _) = _
  rw [decide_eq_false (by omega)]; rfl
 rw [unf]
 refine (PDeeds_loop4 d hf hl d NN 0 none rfl rfl (by have := NN_ok; omega) R _ _).trans ?_
 have h2 := PDeeds_loop14 d hl d NN 0 [] rfl (by have := NN_ok; omega) (fun w => by rw [lm_get_net_own_bool]; rfl) R (fun e27 => k e27) (k 0)
 unfold faultD
 cases faultDs none d != 0 with
 | true => rfl
 | false =>
  simp only [cond_false]
  refine h2.trans ?_
  rw [List.take_zero]
  cases dupD [] d <;> rfl
end Go.Am
set_option linter.unusedVariables false
set_option linter.unusedSectionVars false
set_option linter.unusedSimpArgs false
set_option maxRecDepth 100000
namespace Go.Am
open Go Go.Proofs
variable [Fuel]
def sameD (x o : G_Deed) : Bool := o.f_Site == x.f_Site && o.f_No == x.f_No
theorem sameD_is {x o : G_Deed} : sameD x o = true ↔ ownD o = ownD x := by simp [sameD, ownD]
def mrgD : List G_Deed → List G_Deed → Option (List G_Deed)
 | out, [] => some out
 | out, x :: xs => match out.find? (sameD x) with
  | none => mrgD (out ++ [x]) xs
  | some v => bif eq_G_Deed v x then mrgD out xs else none
theorem mrgD_new : ∀ (a out b : List G_Deed), (∀ o ∈ out, ∀ x ∈ a, ownD o ≠ ownD x) → a.Pairwise (fun x y => ownD x ≠ ownD y) → mrgD out (a ++ b) = mrgD (out ++ a) b
 | [], out, b, _, _ => by simp
 | x :: a, out, b, h, hp => by
  have hx : out.find? (sameD x) = none := List.find?_eq_none.2 fun o ho e => h o ho x (by simp) (sameD_is.1 e)
  obtain ⟨h1, h2⟩ := List.pairwise_cons.1 hp
  rw [List.cons_append, mrgD, hx]
  refine (mrgD_new a (out ++ [x]) b (fun o ho y hy => ?_) h2).trans (by simp)
  rcases List.mem_append.1 ho with ho | ho
  ·exact h o ho y (by simp [hy])
  ·rw [List.mem_singleton] at ho; rw [ho]; exact h1 y hy
theorem mrgD_facts {P : G_Deed → Prop} : ∀ (b out r : List G_Deed), mrgD out b = some r → out.Pairwise (fun x y => ownD x ≠ ownD y) → (∀ o ∈ out, P o) → (∀ o ∈ b, P o) → r.Pairwise (fun x y => ownD x ≠ ownD y) ∧ (∀ o ∈ r, P o) ∧ r.length ≤ out.length + b.length
 | [], out, r, h, hp, h1, _ => by cases h; exact ⟨hp, h1, by simp⟩
 | x :: b, out, r, h, hp, h1, h2 => by
  rw [mrgD] at h
  cases hf : out.find? (sameD x) with
  | none =>
   rw [hf] at h
   obtain ⟨g1, g2, g3⟩ := mrgD_facts b (out ++ [x]) r h (List.pairwise_append.2 ⟨hp, List.pairwise_singleton _ _, fun o ho y hy e => by
     rw [List.mem_singleton] at hy
     subst hy
     exact List.find?_eq_none.1 hf o ho (sameD_is.2 e)⟩) (fun o ho => by
     rcases List.mem_append.1 ho with ho | ho
     ·exact h1 o ho
     ·rw [List.mem_singleton] at ho; rw [ho]; exact h2 x (by simp)) (fun o ho => h2 o (by simp [ho]))
   exact ⟨g1, g2, by simp at g3 ⊢; omega⟩
  | some v =>
   rw [hf] at h
   simp only at h
   cases he : eq_G_Deed v x with
   | false => rw [he] at h; cases h
   | true =>
    rw [he] at h
    obtain ⟨g1, g2, g3⟩ := mrgD_facts b out r h hp h1 (fun o ho => h2 o (by simp [ho]))
    exact ⟨g1, g2, by simp at g3 ⊢; omega⟩
theorem mrg_loop11 (d : List G_Deed) (hl : d.length ≤ 1000) : ∀ (xs : List G_Deed) (n i : Nat) (m : List (G_net_own × G_Deed)) (out : List G_Deed), d.drop i = xs → xs.length < n → out.length ≤ i → i ≤ d.length →
  (∀ x : G_Deed, mget_net_own_Deed (ownD x) m = out.find? (sameD x)) →
  ∀ (R : Type) (e0 : Int → List G_Deed → Option R) (e1 : List G_Deed → Option R), ∃ o : List G_Deed, net_Merge_L11 I_net_Merge n (d.length : Int) (i : Int) m d out e0 e1 = match mrgD out xs with | some r => e1 r | none => e0 13 o
 | _, 0, _, _, _, _, h, _, _, _, _, _, _ => by omega
 | [], n + 1, i, m, out, h, _, ho, hi, hm, R, e0, e1 => ⟨[], by rw [net_Merge_L11, ge_drop h]; rfl⟩
 | c :: cs, n + 1, i, m, out, h, hn, ho, hi, hm, R, e0, e1 => by
  have h' := drop_cons h
  have hn' : cs.length < n := Nat.lt_of_succ_lt_succ (by simpa only [List.length_cons] using hn)
  have hw := w64_succ (show i < 4611686018427387904 by omega)
  have hq : mget_net_own_Deed ⟨c.f_Site, c.f_No⟩ m = out.find? (sameD c) := hm c
  cases hf : out.find? (sameD c) with
  | none =>
   obtain ⟨o, g⟩ := mrg_loop11 d hl cs n (i + 1) (mset_net_own_Deed (ownD c) c m) (out ++ [c]) h'.2.2.1 hn' (by simp; omega) h'.2.1 (fun x => by
    rw [lm_get_net_own_Deed, lm_set_net_own_Deed, aget_aset keq_net_own_is, List.find?_append]
    have hmx := hm x
    rw [lm_get_net_own_Deed] at hmx
    cases hk : keq_net_own (ownD x) (ownD c) with
    | true =>
     have e := (keq_net_own_is _ _).1 hk
     have h1 : out.find? (sameD x) = none := List.find?_eq_none.2 fun o ho hs => List.find?_eq_none.1 hf o ho (sameD_is.2 ((sameD_is.1 hs).trans e))
     rw [h1, cond_true, List.find?_cons, sameD_is.2 e.symm]; rfl
    | false =>
     have hs : sameD x c = false := by
      cases hs : sameD x c with
      | false => rfl
      | true => rw [(keq_net_own_is _ _).2 (sameD_is.1 hs).symm] at hk; cases hk
     rw [cond_false, hmx, List.find?_cons, hs, List.find?_nil, Option.or_none]) R e0 e1
   refine ⟨o, ?_⟩
   rw [net_Merge_L11, lt_drop h, cond_true, inr_drop h, at_drop h, hq, hf, mrgD, hf]
   simp only [Option.isSome_none, Bool.not_false, cond_true, room1 out c 176 (show out.length ≤ 1000000 by omega) (by omega), hw]
   exact g
  | some v =>
   obtain ⟨o, g⟩ := mrg_loop11 d hl cs n (i + 1) m out h'.2.2.1 hn' (by omega) h'.2.1 hm R e0 e1
   have he : net_Merge_L11 I_net_Merge (n + 1) (d.length : Int) (i : Int) m d out e0 e1 = bif eq_G_Deed v c then net_Merge_L11 I_net_Merge n (d.length : Int) ((i + 1 : Nat) : Int) m d out e0 e1 else e0 13 out := by
    rw [net_Merge_L11, lt_drop h, cond_true, inr_drop h, at_drop h, hq, hf]
    show (bif !(eq_G_Deed ⟨v.f_Site, v.f_No, v.f_At, v.f_Kind, v.f_Contact, v.f_Band, v.f_Of, v.f_Other⟩ c) then _ else _) = _
    rw [show (⟨v.f_Site, v.f_No, v.f_At, v.f_Kind, v.f_Contact, v.f_Band, v.f_Of, v.f_Other⟩ : G_Deed) = v from rfl, hw]
    cases eq_G_Deed v c <;> rfl
   rw [he, mrgD, hf]
   simp only
   cases eq_G_Deed v c with
   | true => exact ⟨o, g⟩
   | false => exact ⟨out, rfl⟩
theorem idxOf_is {l : List G_Deed} (hl : l.length ≤ 100000) (x : G_Deed) (R : Type) (k : Int → List G_Deed → G_Deed → Option R) : z6z l x k = k (idxI (sameD x) l) l x := by
 rw [li_z6z]
 exact sIndexO_is _ (sameD x) x l (fun y _ R k => by
  simp only [z23z, z23z_, I_z23z, Q_sameNo_is]; rfl) (by have := NN_ok; omega) (by have := NN_ok; omega) k
theorem mrg_loop3 (d : List G_Deed) (hl : d.length ≤ 1000) : ∀ (xs : List G_Deed) (n i : Nat) (out : List G_Deed), d.drop i = xs → xs.length < n → out.length ≤ 1000 + i → i ≤ d.length →
  ∀ (R : Type) (e0 : Int → List G_Deed → Option R) (e1 : List G_Deed → Option R), ∃ o : List G_Deed, Q_DeedsOf_L3 I_Q_DeedsOf n d (d.length : Int) (i : Int) out e0 e1 = match mrgD out xs with | some r => e1 r | none => e0 13 o
 | _, 0, _, _, _, h, _, _, _, _, _ => by omega
 | [], n + 1, i, out, h, _, ho, hi, R, e0, e1 => ⟨[], by rw [Q_DeedsOf_L3, ge_drop h]; rfl⟩
 | c :: cs, n + 1, i, out, h, hn, ho, hi, R, e0, e1 => by
  have h' := drop_cons h
  have hn' : cs.length < n := Nat.lt_of_succ_lt_succ (by simpa only [List.length_cons] using hn)
  have hw := w64_succ (show i < 4611686018427387904 by omega)
  have hI : ∀ k : Int → List G_Deed → G_Deed → Option R, I_Q_DeedsOf.z6z out c k = k (idxI (sameD c) out) out c := fun k => idxOf_is (by omega) c R k
  rcases idxI_cases (sameD c) out with ⟨h1, hf⟩ | ⟨j, v, h1, hv, _, hf⟩
  ·obtain ⟨o, g⟩ := mrg_loop3 d hl cs n (i + 1) (out ++ [c]) h'.2.2.1 hn' (by simp; omega) h'.2.1 R e0 e1
   refine ⟨o, ?_⟩
   rw [Q_DeedsOf_L3, lt_drop h, cond_true, get_drop h, hI, h1, decide_eq_true (show (-1 : Int) < 0 by omega), cond_true, room1 out c 176 (show out.length ≤ 1000000 by omega) (by omega), cond_true, hw, mrgD, hf]
   exact g
  ·obtain ⟨o, g⟩ := mrg_loop3 d hl cs n (i + 1) out h'.2.2.1 hn' (by omega) h'.2.1 R e0 e1
   have hj : j < out.length := by obtain ⟨h, _⟩ := List.getElem?_eq_some_iff.1 hv; exact h
   have he : Q_DeedsOf_L3 I_Q_DeedsOf (n + 1) d (d.length : Int) (i : Int) out e0 e1 = bif eq_G_Deed v c then Q_DeedsOf_L3 I_Q_DeedsOf n d (d.length : Int) ((i + 1 : Nat) : Int) out e0 e1 else e0 13 out := by
    rw [Q_DeedsOf_L3, lt_drop h, cond_true, get_drop h, hI, h1, decide_eq_false (show ¬ (j : Int) < 0 by omega), cond_false, inr_nat hj, at_nat hv, hw]
    cases eq_G_Deed v c <;> rfl
   rw [he, mrgD, hf]
   simp only
   cases eq_G_Deed v c with
   | true => exact ⟨o, g⟩
   | false => exact ⟨out, rfl⟩
theorem Merge_both {a b : List G_Deed} (ha : RightD a) (hb : RightD b) (la : a.length ≤ 400) (lb : b.length ≤ 400) : ∃ (r : List G_Deed) (e : Int), r.length ≤ 1000 ∧ (∀ (R : Type) (k : List G_Deed → Int → Option R), net_Merge a b k = k r e) ∧ ∀ (R : Type) (k : List G_Deed → Int → Option R), Q_DeedsOf a b k = k r e := by
 have hloop : ∀ (R : Type) (e0 : List G_Deed → List G_Deed → Int → Option R) (e1 : List G_Deed → List G_Deed → Option R), net_Merge_L2 I_net_Merge NN a b ([a, b].length : Int) 0 [a, b] e0 e1 = e1 a b := fun R e0 e1 => by
  have ca : ∀ k : Int → Option R, I_net_Merge.z7z a k = k 0 := fun k => z7z_right ha (by omega) R k
  have cb : ∀ k : Int → Option R, I_net_Merge.z7z b k = k 0 := fun k => z7z_right hb (by omega) R k
  obtain ⟨m, e, hm⟩ := NN_succ
  obtain ⟨m, rfl⟩ : ∃ q, m = q + 2 := ⟨m - 2, by omega⟩
  have w1 : w64 (0 + 1) = ((1 : Nat) : Int) := w64_eq (by omega) (by omega)
  have w2 : w64 (((1 : Nat) : Int) + 1) = ((2 : Nat) : Int) := by rw [w64_eq (by omega) (by omega)]; rfl
  have i0 : ∀ {R : Type} (k : Option R), inr [a, b] 0 k = k := fun k => inr_nat (i := 0) (by simp) k
  have a0 : ∀ {R : Type} (k : List G_Deed → Option R), at_ [a, b] 0 k = k a := fun k => at_nat (i := 0) rfl k
  have i1 : ∀ {R : Type} (k : Option R), inr [a, b] ((1 : Nat) : Int) k = k := fun k => inr_nat (i := 1) (by simp) k
  have a1 : ∀ {R : Type} (k : List G_Deed → Option R), at_ [a, b] ((1 : Nat) : Int) k = k b := fun k => at_nat (i := 1) rfl k
  have d0 : decide ((0 : Int) < ([a, b].length : Int)) = true := rfl
  have d1 : decide (((1 : Nat) : Int) < ([a, b].length : Int)) = true := rfl
  have d2 : decide (((2 : Nat) : Int) < ([a, b].length : Int)) = false := rfl
  rw [show (NN : Nat) = m + 2 + 1 from e, net_Merge_L2, d0, cond_true, i0, a0, ca, bne_self_eq_false, cond_false, w1, net_Merge_L2, d1, cond_true, i1, a1, cb, bne_self_eq_false, cond_false, w2, net_Merge_L2, d2, cond_false]
 have hnew := mrgD_new a [] b (fun o h => (by cases h)) ha.own
 rw [List.nil_append] at hnew
 have P11 := mrg_loop11 (a ++ b) (by simp; omega) (a ++ b) NN 0 [] [] rfl (by simp; have := NN_ok; omega) (by simp) (by simp) (fun x => by rw [lm_get_net_own_Deed]; rfl)
 have P3 := mrg_loop3 b (by omega) b NN 0 a rfl (by have := NN_ok; omega) (by omega) (by omega)
 have unP : ∀ (R : Type) (k : List G_Deed → Int → Option R), net_Merge a b k = net_Merge_L11 I_net_Merge NN ((a ++ b).length : Int) ((0 : Nat) : Int) [] (a ++ b) [] (fun e25 e26 => k [] e25) (fun e27 => (bif (decide ((e27.length : Int) > 2000)) then k [] 2 else (I_net_Merge.z27z e27 (fun r28 => k r28 0)))) := fun R k => by
  have cc : ∀ k : List G_Deed → Option R, I_net_Merge.z13z [a, b] k = k (a ++ b) := fun k => catD_is (by omega) (by omega) R k
  show net_Merge_L2 I_net_Merge NN a b ([a, b].length : Int) 0 [a, b] _ _ = _
  refine (hloop R _ _).trans ?_
  rw [cc]; rfl
 have unQ : ∀ (R : Type) (k : List G_Deed → Int → Option R), Q_DeedsOf a b k = Q_DeedsOf_L3 I_Q_DeedsOf NN b (b.length : Int) ((0 : Nat) : Int) a (fun e18 e19 => k [] e18) (fun e20 => (I_Q_DeedsOf.z26z e20 (fun r21 => (bif (decide ((r21.length : Int) > 2000)) then k [] 2 else k r21 0)))) := fun R k => by
  have cc : ∀ k : List G_Deed → Option R, I_Q_DeedsOf.z33z a k = k a := fun k => cloneD_is (by omega) R k
  show Q_DeedsOf_ I_Q_DeedsOf a b k = _
  unfold Q_DeedsOf_
  rw [cc]; rfl
 rw [hnew] at P11
 cases hm : mrgD a b with
 | none =>
  refine ⟨[], 13, by simp, fun R k => ?_, fun R k => ?_⟩
  ·obtain ⟨o, g⟩ := P11 R (fun e25 e26 => k [] e25) (fun e27 => (bif (decide ((e27.length : Int) > 2000)) then k [] 2 else (I_net_Merge.z27z e27 (fun r28 => k r28 0))))
   rw [unP, g, hm]
  ·obtain ⟨o, g⟩ := P3 R (fun e18 e19 => k [] e18) (fun e20 => (I_Q_DeedsOf.z26z e20 (fun r21 => (bif (decide ((r21.length : Int) > 2000)) then k [] 2 else k r21 0))))
   rw [unQ, g, hm]
 | some r =>
  obtain ⟨g1, g2, g3⟩ := mrgD_facts (P := FineD) b a r hm ha.own ha.fine hb.fine
  obtain ⟨ys, y1, y2, y3⟩ := X_sortf_is (call := @z24z _) (xs := r) (c := cmpD) (by omega) (fun x _ y _ => z24z_is x y) (ords_cmpD.pre _)
  obtain ⟨zs, z1, z2, z3⟩ := X_sortf_is (call := @z2z _) (xs := r) (c := cmpD) (by omega) (fun x hx y hy => z2z_is (g2 x hx) (g2 y hy)) (ords_cmpD.pre _)
  have strict : ∀ {ws : List G_Deed}, ws.Perm r → ws.Pairwise (fun a b => cmpD a b ≤ 0) → ws.Pairwise fun a b => cmpD a b < 0 := fun {ws} h1 h2 => by
   have hown : ws.Pairwise fun a b => ownD a ≠ ownD b := (h1.pairwise_iff (fun {a b} h e => h e.symm)).2 g1
   refine (h2.and hown).imp fun {a b} h => ?_
   rcases Int.lt_or_eq_of_le h.1 with t | t
   ·exact t
   ·exact absurd (cmpD_own t) h.2
  have hyz : zs = ys := strict_one ords_cmpD (strict z1 z2) (strict y1 y2) fun x => by rw [z1.mem_iff, y1.mem_iff]
  subst hyz
  have lz := z1.length_eq
  refine ⟨zs, 0, by omega, fun R k => ?_, fun R k => ?_⟩
  ·obtain ⟨o, g⟩ := P11 R (fun e25 e26 => k [] e25) (fun e27 => (bif (decide ((e27.length : Int) > 2000)) then k [] 2 else (I_net_Merge.z27z e27 (fun r28 => k r28 0))))
   rw [unP, g, hm]
   simp only
   have sP : ∀ k : List G_Deed → Option R, I_net_Merge.z27z r k = k zs := fun k => y3 R k
   rw [decide_eq_false (by omega), cond_false, sP]
  ·obtain ⟨o, g⟩ := P3 R (fun e18 e19 => k [] e18) (fun e20 => (I_Q_DeedsOf.z26z e20 (fun r21 => (bif (decide ((r21.length : Int) > 2000)) then k [] 2 else k r21 0))))
   rw [unQ, g, hm]
   simp only
   have sQ : ∀ k : List G_Deed → Option R, I_Q_DeedsOf.z26z r k = k zs := fun k => z3 R k
   rw [sQ, decide_eq_false (by omega), cond_false]
theorem Merge_fault {a b : List G_Deed} (ha : ∀ x ∈ a, FineD x) (hb : ∀ x ∈ b, FineD x) (la : a.length ≤ 400) (lb : b.length ≤ 400) (h0 : orL [faultD a, faultD b] ≠ 0) (R : Type) (k : List G_Deed → Int → Option R) : net_Merge a b k = k [] (orL [faultD a, faultD b]) := by
 have ca : ∀ k : Int → Option R, I_net_Merge.z7z a k = k (faultD a) := fun k => z7z_is ha (by omega) R k
 have cb : ∀ k : Int → Option R, I_net_Merge.z7z b k = k (faultD b) := fun k => z7z_is hb (by omega) R k
 have hloop : ∀ (e0 : List G_Deed → List G_Deed → Int → Option R) (e1 : List G_Deed → List G_Deed → Option R), net_Merge_L2 I_net_Merge NN a b ([a, b].length : Int) 0 [a, b] e0 e1 = e0 a b (orL [faultD a, faultD b]) := fun e0 e1 => by
  obtain ⟨m, e, hm⟩ := NN_succ
  obtain ⟨m, rfl⟩ : ∃ q, m = q + 2 := ⟨m - 2, by omega⟩
  have w1 : w64 (0 + 1) = ((1 : Nat) : Int) := w64_eq (by omega) (by omega)
  have w2 : w64 (((1 : Nat) : Int) + 1) = ((2 : Nat) : Int) := by rw [w64_eq (by omega) (by omega)]; rfl
  have i0 : ∀ {R : Type} (k : Option R), inr [a, b] 0 k = k := fun k => inr_nat (i := 0) (by simp) k
  have a0 : ∀ {R : Type} (k : List G_Deed → Option R), at_ [a, b] 0 k = k a := fun k => at_nat (i := 0) rfl k
  have i1 : ∀ {R : Type} (k : Option R), inr [a, b] ((1 : Nat) : Int) k = k := fun k => inr_nat (i := 1) (by simp) k
  have a1 : ∀ {R : Type} (k : List G_Deed → Option R), at_ [a, b] ((1 : Nat) : Int) k = k b := fun k => at_nat (i := 1) rfl k
  have d0 : decide ((0 : Int) < ([a, b].length : Int)) = true := rfl
  have d1 : decide (((1 : Nat) : Int) < ([a, b].length : Int)) = true := rfl
  have d2 : decide (((2 : Nat) : Int) < ([a, b].length : Int)) = false := rfl
  rw [show (NN : Nat) = m + 2 + 1 from e, net_Merge_L2, d0, cond_true, i0, a0, ca]
  cases q1 : faultD a != 0 with
  | true => rw [cond_true]; simp only [orL, q1, cond_true]
  | false =>
   rw [cond_false, w1, net_Merge_L2, d1, cond_true, i1, a1, cb]
   cases q2 : faultD b != 0 with
   | true => rw [cond_true]; simp only [orL, q1, q2, cond_true, cond_false]
   | false => exact absurd (show orL [faultD a, faultD b] = 0 by simp only [orL, q1, q2, cond_false]) h0
 show net_Merge_L2 I_net_Merge NN a b ([a, b].length : Int) 0 [a, b] _ _ = _
 exact hloop _ _
end Go.Am
