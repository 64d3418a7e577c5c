/- The plain law, in Lean alone: YA. No condition: lemmas for the claim. -/
import Derived.Test.YtonhhbcacemaiaaGreatDoorPlY1
import Derived.Test.YtonhhbcacemaiaaGreatDoorPlM5
set_option linter.unusedVariables false
set_option linter.unusedSectionVars false
set_option linter.unusedSimpArgs false
set_option maxRecDepth 100000
namespace Go.Am
open Go Go.Proofs
variable [Fuel]
def outL : List (List UInt8) := [[107, 49, 97, 98], [111, 104, 50, 97, 98, 99], [111, 104, 50, 97, 98, 100], [119, 49, 97, 119]]
theorem onWay1 (R : Type) (k : Bool → Option R) : call_Is [107, 49, 97, 98, 47, 112] k = k true := by
 obtain ⟨m, h, rfl⟩ := fuel_is ‹Fuel›
 kernel_rfl
theorem onWay2 (R : Type) (k : Bool → Option R) : call_Is [111, 104, 50, 97, 98, 99, 47, 112] k = k true := by
 obtain ⟨m, h, rfl⟩ := fuel_is ‹Fuel›
 kernel_rfl
theorem onWay3 (R : Type) (k : Bool → Option R) : call_Is [111, 104, 50, 97, 98, 100, 47, 112] k = k true := by
 obtain ⟨m, h, rfl⟩ := fuel_is ‹Fuel›
 kernel_rfl
theorem onWay4 (R : Type) (k : Bool → Option R) : call_Is [119, 49, 97, 119, 47, 112] k = k true := by
 obtain ⟨m, h, rfl⟩ := fuel_is ‹Fuel›
 kernel_rfl
theorem ofWay1 (R : Type) (k : List UInt8 → Option R) : z73z [107, 49, 97, 98, 47, 112] k = k [107, 49, 97, 98] := by
 obtain ⟨m, h, rfl⟩ := fuel_is ‹Fuel›
 kernel_rfl
theorem ofWay2 (R : Type) (k : List UInt8 → Option R) : z73z [111, 104, 50, 97, 98, 99, 47, 112] k = k [111, 104, 50, 97, 98, 99] := by
 obtain ⟨m, h, rfl⟩ := fuel_is ‹Fuel›
 kernel_rfl
theorem ofWay3 (R : Type) (k : List UInt8 → Option R) : z73z [111, 104, 50, 97, 98, 100, 47, 112] k = k [111, 104, 50, 97, 98, 100] := by
 obtain ⟨m, h, rfl⟩ := fuel_is ‹Fuel›
 kernel_rfl
theorem ofWay4 (R : Type) (k : List UInt8 → Option R) : z73z [119, 49, 97, 119, 47, 112] k = k [119, 49, 97, 119] := by
 obtain ⟨m, h, rfl⟩ := fuel_is ‹Fuel›
 kernel_rfl
theorem way_is {s : List UInt8} (h : s ∈ outL) : (∀ (R : Type) (k : Bool → Option R), call_Is (s ++ [47, 112]) k = k true) ∧ ∀ (R : Type) (k : List UInt8 → Option R), z73z (s ++ [47, 112]) k = k s := by
 simp only [outL, List.mem_cons, List.not_mem_nil, or_false] at h
 rcases h with rfl | rfl | rfl | rfl
 ·exact ⟨onWay1, ofWay1⟩
 ·exact ⟨onWay2, ofWay2⟩
 ·exact ⟨onWay3, ofWay3⟩
 ·exact ⟨onWay4, ofWay4⟩
theorem lineF_mem (day : Int) (call : List UInt8) : ∀ (l : List G_Member) (a : G_Member), lineF day call a l = a ∨ (lineF day call a l ∈ l ∧ (lineF day call a l).f_Call = call ∧ (lineF day call a l).f_Day ≤ day)
 | [], a => .inl rfl
 | x :: xs, a => by
  unfold lineF
  cases hc : x.f_Call == call with
  | false =>
   rcases lineF_mem day call xs a with h | ⟨h1, h2, h3⟩
   ·exact .inl h
   ·exact .inr ⟨List.mem_cons_of_mem _ h1, h2, h3⟩
  | true =>
   cases hd : decide (x.f_Day ≤ day) with
   | false =>
    rcases lineF_mem day call xs a with h | ⟨h1, h2, h3⟩
    ·exact .inl h
    ·exact .inr ⟨List.mem_cons_of_mem _ h1, h2, h3⟩
   | true =>
    simp only [cond_true]
    rcases lineF_mem day call xs x with h | ⟨h1, h2, h3⟩
    ·rw [h]
     exact .inr ⟨List.mem_cons_self, by simpa using hc, of_decide_eq_true hd⟩
    ·exact .inr ⟨List.mem_cons_of_mem _ h1, h2, h3⟩
theorem club_Of_way {c : List G_Club} (hc : ∀ x ∈ c, FineU x) (hcl : c.length ≤ 100000) {d : List G_Member} (hf : ∀ m ∈ d, FineM m) (hl : d.length ≤ 100000) (h0 : faultM c d = 0) {s : List UInt8} (hs : s ∈ outL) {day : Int} (hd : inB day 0 4000 = true) (R : Type) (k : List UInt8 → Int → Option R) :
  club_Of c d (s ++ [47, 112]) day k = k (clubF c (lineF day s zM d)) 0 := by
 obtain ⟨w1, w2⟩ := way_is hs
 have hso := (faultU_sorted (faultM_zero h0).1).1
 have hll := line_last day s d []
 simp only [club_Of, club_Of_, I_club_Of, z28z_is hc hcl hf hl, h0, bne_self_eq_false, cond_false, w1, w2, club_isDayM_is, hd, Bool.not_true, club_last_is hl, z88z_is hc hso (show c.length ≤ 1000000 by omega), hll]
 rfl
theorem isSorted_loop (l : List (List UInt8)) (hl : l.length ≤ 100000) (hs : l.Pairwise fun a b => Lib.compareBytes a b ≤ 0) : ∀ (i n : Nat), i < l.length ∨ i = 0 → i < n → ∀ (R : Type) (e0 : Bool → Option R) (e1 : Option R), z23z_L2 I_z23z n l (i : Int) e0 e1 = e1
 | _, 0, _, h, _, _, _ => by omega
 | 0, n + 1, _, _, R, e0, e1 => rfl
 | i + 1, n + 1, hi, hn, R, e0, e1 => by
  have h1 : i + 1 < l.length := by omega
  have h0 : i < l.length := by omega
  have ih := isSorted_loop l hl hs i n (.inl h0) (by omega) R e0 e1
  have hp := (List.pairwise_iff_getElem.1 hs) i (i + 1) h0 h1 (by omega)
  have hle : Op.bytesLess l[i + 1] l[i] = false := by
   rw [bytesLess_is, decide_eq_false]
   have := cb_anti l[i] l[i + 1]
   omega
  have hnan : ∀ {R : Type} (s : List UInt8) (k : Bool → Option R), z85z s k = k false := fun s k => by
   show k (!(s == s)) = k false
   rw [beq_self_eq_true]; rfl
  have hle' : ∀ {R : Type} (k : Bool → Option R), I_z23z.z74z l[i + 1] l[i] k = k false := fun k => by
   show z74z_ I_z74z l[i + 1] l[i] k = k false
   simp only [z74z_, I_z74z, hnan, cond_false, hle]
  have g1 : ∀ {R : Type} (k : List UInt8 → Option R), get_ l ((i + 1 : Nat) : Int) k = k l[i + 1] := fun k => get_nat (List.getElem?_eq_getElem h1) k
  have g0 : ∀ {R : Type} (k : List UInt8 → Option R), get_ l (i : Int) k = k l[i] := fun k => get_nat (List.getElem?_eq_getElem h0) k
  have hw : w64 (((i + 1 : Nat) : Int) - 1) = (i : Int) := by rw [w64_eq (by omega) (by omega)]; omega
  rw [z23z_L2, decide_eq_true (show ((i + 1 : Nat) : Int) > 0 by omega)]
  simp only [cond_true, g1, hw, g0, hle', cond_false, ih]
theorem isSorted_is {l : List (List UInt8)} (hl : l.length ≤ 100000) (hs : l.Pairwise fun a b => Lib.compareBytes a b ≤ 0) (R : Type) (k : Bool → Option R) : z23z l k = k true := by
 show z23z_L2 I_z23z NN l (w64 ((l.length : Int) - 1)) (fun e10 => k e10) (k true) = k true
 by_cases h0 : l.length = 0
 ·obtain ⟨m, e, hm⟩ := NN_succ
  rw [h0, show w64 (((0 : Nat) : Int) - 1) = -1 from w64_eq (by omega) (by omega), show NN = m + 1 from e, z23z_L2]
  rfl
 ·rw [w64_eq (by omega) (by omega), show (l.length : Int) - 1 = ((l.length - 1 : Nat) : Int) by omega]
  exact isSorted_loop l hl hs (l.length - 1) NN (.inl (by omega)) (by have := NN_ok; omega) R _ _
theorem MI_squares (m : G_Member) {l : List (List UInt8)} (hl : l.length ≤ 100000) (R : Type) (k : Bool → G_Member → Option R) : z17z l m k = k (anySq m l) m := by
 simp only [z17z, z17z_, I_z17z, li_z3z]
 rw [sIndexF_is (@z2z _) (fun q => hasP m.f_Locator q) m l (fun x _ R k => by simp only [z2z, z2z_, I_z2z, z62z_is]) (by have := NN_ok; omega) (by have := NN_ok; omega), idxI_ge]
 rfl
theorem MI_club {c : List G_Club} (hcl : c.length ≤ 100000) (key : List UInt8) (R : Type) (k : Int → List UInt8 → Option R) : z4z c key k = k (idxI (fun x => x.f_Key == key) c) key := by
 rw [li_z4z]
 exact sIndexF_is (@z10z _) (fun x => x.f_Key == key) key c (fun x _ R k => rfl) (by have := NN_ok; omega) (by have := NN_ok; omega) k
theorem MI_member (d : List G_Member) (hl : d.length ≤ 100000) (s key : List UInt8) (day : Int) (c : List G_Club) (i : Nat) (x : G_Club) (hx : c[i]? = some x) (hxl : x.f_Squares.length ≤ 100000) : ∀ (xs : List G_Member) (n j : Nat), d.drop j = xs → xs.length < n → (∃ m ∈ xs, m.f_Call = s ∧ m.f_Club = key ∧ m.f_Day ≤ day ∧ anySq m x.f_Squares = true) →
  ∃ j' : Nat, ∀ (R : Type) (e0 : Int → List UInt8 → List UInt8 → Int → List G_Club → Int → Option R) (e1 : List UInt8 → List UInt8 → Int → List G_Club → Int → Option R), z5z_L2 I_z5z n d (d.length : Int) (j : Int) s key day c (i : Int) e0 e1 = e0 (j' : Int) s key day c (i : Int)
 | _, 0, _, _, h, _ => by omega
 | [], n + 1, j, _, _, h => by obtain ⟨m, h, _⟩ := h; cases h
 | m :: ms, n + 1, j, hd, hn, h => by
  have h' := drop_cons hd
  simp only [List.length_cons] at hn
  have hw : w64 ((j : Int) + 1) = ((j + 1 : Nat) : Int) := w64_succ (by have := h'.2.1; omega)
  have hg : ∀ {R : Type} (k : G_Club → Option R), get_ c (i : Int) k = k x := fun k => get_nat hx k
  have hrun : ∀ {R : Type} (k : Bool → List UInt8 → List UInt8 → Int → List G_Club → Int → Option R), I_z5z.z0z m s key day c (i : Int) k = k (m.f_Call == s && (m.f_Club == key && (decide (m.f_Day ≤ day) && anySq m x.f_Squares))) s key day c (i : Int) := fun k => by
   show z0z_ I_z0z m s key day c (i : Int) k = _
   simp only [z0z_, hg, I_z0z, MI_squares m hxl]
   cases m.f_Call == s <;> cases m.f_Club == key <;> cases decide (m.f_Day ≤ day) <;> rfl
  cases hb : (m.f_Call == s && (m.f_Club == key && (decide (m.f_Day ≤ day) && anySq m x.f_Squares))) with
  | true =>
   refine ⟨j, fun R e0 e1 => ?_⟩
   rw [z5z_L2, lt_drop hd]
   simp only [cond_true, get_drop hd, hrun, hb]
  | false =>
   obtain ⟨j', g⟩ := MI_member d hl s key day c i x hx hxl ms n (j + 1) h'.2.2.1 (by omega) (by
    obtain ⟨z, z1, z2, z3, z4, z5⟩ := h
    rcases List.mem_cons.1 z1 with rfl | z1
    ·rw [z2, z3, beq_self_eq_true, beq_self_eq_true, decide_eq_true z4, z5] at hb
     cases hb
    ·exact ⟨z, z1, z2, z3, z4, z5⟩)
   refine ⟨j', fun R e0 e1 => ?_⟩
   rw [z5z_L2, lt_drop hd]
   simp only [cond_true, get_drop hd, hrun, hb, cond_false, hw]
   exact g R e0 e1
theorem idxI_first {α : Type} (p : α → Bool) (l : List α) (h : l.any p = true) : ∃ (i : Nat) (x : α), idxI p l = (i : Int) ∧ l[i]? = some x ∧ p x = true := by
 unfold idxI
 cases hf : l.findIdx? p with
 | none =>
  rw [List.findIdx?_eq_none_iff] at hf
  rw [List.any_eq_true] at h
  obtain ⟨x, hx, hp⟩ := h
  rw [hf x hx] at hp; cases hp
 | some i =>
  obtain ⟨hi, h1, _⟩ := List.findIdx?_eq_some_iff_getElem.1 hf
  exact ⟨i, l[i], rfl, List.getElem?_eq_getElem hi, h1⟩
theorem MI_L10 {c : List G_Club} (hc : ∀ x ∈ c, FineU x) (hcl : c.length ≤ 1000) {d : List G_Member} (hf : ∀ m ∈ d, FineM m) (hl : d.length ≤ 1000) (h0 : faultM c d = 0) {day : Int} (hd : inB day 0 4000 = true)
  (o : List (List UInt8)) (hol : o.length ≤ 100000) (ho : ∀ s, s ∈ o ↔ ∃ x ∈ d, x.f_Call = s ∧ predO c (lineF day s zM d) = true) : ∀ (xs : List (List UInt8)) (n i : Nat), outL.drop i = xs → xs.length < n →
  ∀ (R : Type) (e0 : Bool → Option R) (e1 : Option R), keep_MembersAreInside_L10 I_keep_MembersAreInside n d (outL.length : Int) (i : Int) c day o outL e0 e1 = e1
 | _, 0, _, _, h, _, _, _ => by omega
 | [], n + 1, i, h, _, R, e0, e1 => by rw [keep_MembersAreInside_L10, ge_drop h]; rfl
 | s :: ss, n + 1, i, h, hn, R, e0, e1 => by
  have h' := drop_cons h
  simp only [List.length_cons] at hn
  have hw : w64 ((i : Int) + 1) = ((i + 1 : Nat) : Int) := w64_succ (by have := h'.2.1; have : outL.length = 4 := rfl; omega)
  have hs := mem_drop h
  have hsl : s.length ≤ 100 := by
   have : ∀ t ∈ outL, t.length ≤ 100 := by decide
   exact this s hs
  have hso := (faultU_sorted (faultM_zero h0).1).1
  have ih := MI_L10 hc hcl hf hl h0 hd o hol ho ss n (i + 1) h'.2.2.1 (by omega) R e0 e1
  have hof : ∀ k : List UInt8 → Int → Option R, I_keep_MembersAreInside.club_Of c d (s ++ [47, 112]) day k = k (clubF c (lineF day s zM d)) 0 := fun k => club_Of_way hc (by omega) hf (by omega) h0 hs hd R k
  have hix : ∀ (key : List UInt8) (k : Int → List UInt8 → Option R), I_keep_MembersAreInside.z4z c key k = k (idxI (fun x => x.f_Key == key) c) key := fun key k => MI_club (by omega) key R k
  rw [keep_MembersAreInside_L10, lt_drop h]
  simp only [cond_true, inr_drop h, at_drop h, strOk_is (show s.length + ([47, 112] : List UInt8).length ≤ 1000 by simp; omega), hof, bne_self_eq_false, cond_false, hix]
  cases hk : clubF c (lineF day s zM d) == [] with
  | true => simp only [Bool.not_true, cond_false, hw, ih]
  | false =>
   have hins : insB c (lineF day s zM d) = true := by
    cases hb : insB c (lineF day s zM d) with
    | true => rfl
    | false => unfold clubF at hk; rw [hb] at hk; cases hk
   have hcf : clubF c (lineF day s zM d) = (lineF day s zM d).f_Club := by unfold clubF; rw [hins]; rfl
   have hne : (lineF day s zM d).f_Club ≠ [] := fun e => by rw [hcf, e] at hk; cases hk
   have hmem := (lineF_mem day s d zM).resolve_left (fun e => hne (by rw [e]; rfl))
   obtain ⟨m1, m2, m3⟩ := hmem
   have hno : ¬ s ∈ o := fun hso' => by
    obtain ⟨x, _, _, hp⟩ := (ho s).1 hso'
    unfold predO at hp
    rw [hins] at hp
    cases hq : !((lineF day s zM d).f_Club == []) <;> rw [hq] at hp <;> cases hp
   have hcon : ∀ k : Bool → Option R, I_keep_MembersAreInside.z58z o s k = k false := fun k => by
    have := containsS_is hol s R k
    have h2 : (o.any fun y => y == s) = false := by
     rw [List.any_eq_false]
     intro y hy hys
     exact hno (by rw [← (by simpa using hys : y = s)]; exact hy)
    rw [h2] at this
    exact this
   have hany : c.any (fun x => x.f_Key == clubF c (lineF day s zM d)) = true := by
    have := hins
    unfold insB at this
    rw [List.any_eq_true] at this ⊢
    obtain ⟨x, hx, hp⟩ := this
    refine ⟨x, hx, ?_⟩
    rw [hcf]
    cases hq : x.f_Key == (lineF day s zM d).f_Club with
    | true => rfl
    | false => rw [hq] at hp; cases hp
   obtain ⟨j, x, j1, j2, j3⟩ := idxI_first (fun x => x.f_Key == clubF c (lineF day s zM d)) c hany
   have hxm := List.mem_of_getElem? j2
   have hxk : x.f_Key = (lineF day s zM d).f_Club := by rw [← hcf]; simpa using j3
   have hsq : anySq (lineF day s zM d) x.f_Squares = true := by rw [← insB_at hso hxm hxk]; exact hins
   obtain ⟨j', hj'⟩ := MI_member d (by omega) s (clubF c (lineF day s zM d)) day c j x j2 (by have := (hc x hxm).len; omega) d NN 0 rfl (by have := NN_ok; omega) ⟨_, m1, m2, hcf.symm, m3, hsq⟩
   have hfind : ∀ k : Bool → List UInt8 → List UInt8 → Int → List G_Club → Int → Option R, I_keep_MembersAreInside.z21z d s (clubF c (lineF day s zM d)) day c (j : Int) k = k true s (clubF c (lineF day s zM d)) day c (j : Int) := fun k => by
    have h1 := hj' R (fun e29 e30 e31 e32 e33 e34 => k (decide (e29 ≥ 0)) e30 e31 e32 e33 e34) (fun e35 e36 e37 e38 e39 => k (decide ((-1 : Int) ≥ 0)) e35 e36 e37 e38 e39)
    rw [decide_eq_true (show ((j' : Int) ≥ 0) by omega)] at h1
    exact h1
   simp only [Bool.not_false, cond_true, hcon, cond_false, hk, j1, decide_eq_false (show ¬ (j : Int) < 0 by omega), hfind, Bool.not_true, hw, ih]
theorem keep_MembersAreInside_true (l : List Int) (R : Type) (k : Bool → Option R) : keep_MembersAreInside l k = k true := by
 obtain ⟨c, s1, z1, lc, hc', e1⟩ := z16z_gives (sOk0 l) (by omega)
 have hc : ∀ x ∈ c, FineU x := fun x hx => (hc' x hx).1
 obtain ⟨d, s2, z2, ld, hd, e2⟩ := z19z_gives z1 (by omega) hc (show c.length ≤ 100 by omega)
 obtain ⟨day, s3, d1, d2, z3, e3⟩ := z60z_gives z2 0 12 (by omega) (by omega) (by omega) (by omega) (by omega)
 have hdy : inB day 0 4000 = true := inB_is.2 ⟨by omega, by omega⟩
 have hq : ∀ k : Int → Option R, z6z c d k = k (faultM c d) := fun k => z6z_is hc (by omega) hd (by omega) R k
 by_cases h0 : faultM c d = 0
 ·have hp := (faultMs_calls c d none (faultM_zero h0).2).2
  obtain ⟨q1, q2, q3, q4⟩ := outQ_facts (fun s => predO c (lineF day s zM d)) d [] .nil .nil hp (fun a h => by cases h)
  have hfo : faultOut c d day = 0 := by unfold faultOut; rw [h0, hdy]; rfl
  have ho : ∀ k : List (List UInt8) → Int → Option R, z48z c d day k = k (outQ (fun s => predO c (lineF day s zM d)) [] d) 0 := fun k => by
   rw [z48z_is hc (by omega) hd (by omega), hfo]; rfl
  have hol : (outQ (fun s => predO c (lineF day s zM d)) [] d).length ≤ 100000 := by simp at q4; omega
  have hsrt : ∀ k : Bool → Option R, z23z (outQ (fun s => predO c (lineF day s zM d)) [] d) k = k true := fun k => isSorted_is hol q2 R k
  have hmem : ∀ s, s ∈ outQ (fun s => predO c (lineF day s zM d)) [] d ↔ ∃ x ∈ d, x.f_Call = s ∧ predO c (lineF day s zM d) = true := fun s => by
   rw [q3]; simp
  have hrun : ∀ (e0 : Bool → Option R) (e1 : Option R), keep_MembersAreInside_L10 I_keep_MembersAreInside NN d 4 0 c day (outQ (fun s => predO c (lineF day s zM d)) [] d) outL e0 e1 = e1 := fun e0 e1 =>
   MI_L10 hc (by omega) hd (by omega) h0 hdy _ hol hmem outL NN 0 rfl (by have := NN_ok; show 4 < NN; omega) R e0 e1
  simp only [I_keep_MembersAreInside] at hrun
  simp only [keep_MembersAreInside, keep_MembersAreInside_, I_keep_MembersAreInside, e1, e2, e3, hq, h0, bne_self_eq_false, cond_false, ho, hsrt, Bool.not_true]
  refine (hrun _ _).trans ?_
  exact keep_ready_is R k
 ·have hb : (faultM c d != 0) = true := by simpa using h0
  simp only [keep_MembersAreInside, keep_MembersAreInside_, I_keep_MembersAreInside, e1, e2, e3, hq, hb, cond_true]
  exact keep_ready_is R k
end Go.Am
