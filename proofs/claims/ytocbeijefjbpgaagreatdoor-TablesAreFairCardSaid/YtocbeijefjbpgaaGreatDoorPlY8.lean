/- The plain law, in Lean alone: Y8. No condition: lemmas for the claim. -/
import Derived.Test.YtocbeijefjbpgaaGreatDoorPlY1
import Derived.Test.YtocbeijefjbpgaaGreatDoorPlX1
set_option linter.unusedVariables false
set_option linter.unusedSectionVars false
set_option linter.unusedSimpArgs false
set_option maxRecDepth 100000
namespace Go.Am
open Go Go.Proofs
variable [Fuel]
def rk1 (pr : Option G_Place) (i : Nat) (p : G_Place) : G_Place := match pr with
 | none => ⟨(i : Int) + 1, p.f_Points, p.f_Key⟩
 | some q => bif p.f_Points == q.f_Points then ⟨q.f_Rank, p.f_Points, p.f_Key⟩ else ⟨(i : Int) + 1, p.f_Points, p.f_Key⟩
def rankL : Option G_Place → Nat → List G_Place → List G_Place
 | _, _, [] => []
 | pr, i, p :: ps => rk1 pr i p :: rankL (some (rk1 pr i p)) (i + 1) ps
theorem rk1_pts (pr : Option G_Place) (i : Nat) (p : G_Place) : (rk1 pr i p).f_Points = p.f_Points ∧ (rk1 pr i p).f_Key = p.f_Key := by
 cases pr with
 | none => exact ⟨rfl, rfl⟩
 | some q => cases hb : p.f_Points == q.f_Points <;> simp [rk1, hb]
theorem rankL_len : ∀ (l : List G_Place) (pr : Option G_Place) (i : Nat), (rankL pr i l).length = l.length
 | [], _, _ => rfl
 | p :: ps, pr, i => by simp [rankL, rankL_len ps]
theorem rankL_mem : ∀ (l : List G_Place) (pr : Option G_Place) (i : Nat) (y : G_Place), y ∈ rankL pr i l → ∃ x ∈ l, y.f_Points = x.f_Points ∧ y.f_Key = x.f_Key
 | [], _, _, y, h => by cases h
 | p :: ps, pr, i, y, h => by
  rcases List.mem_cons.1 h with rfl | h
  ·exact ⟨p, by simp, rk1_pts pr i p⟩
  ·obtain ⟨x, hx, e⟩ := rankL_mem ps _ _ y h
   exact ⟨x, by simp [hx], e⟩
theorem rankL_has : ∀ (l : List G_Place) (pr : Option G_Place) (i : Nat) (x : G_Place), x ∈ l → ∃ y ∈ rankL pr i l, y.f_Points = x.f_Points
 | [], _, _, x, h => by cases h
 | p :: ps, pr, i, x, h => by
  rcases List.mem_cons.1 h with rfl | h
  ·exact ⟨_, List.mem_cons_self, (rk1_pts pr i x).1⟩
  ·obtain ⟨y, hy, e⟩ := rankL_has ps (some (rk1 pr i p)) (i + 1) x h
   exact ⟨y, List.mem_cons_of_mem _ hy, e⟩
def Prv (pre : List G_Place) (pr : Option G_Place) : Prop := (pre = [] ∧ pr = none) ∨ ∃ pre0 q, pre = pre0 ++ [q] ∧ pr = some q
theorem ranked_L3 (L : Nat) (hL : L ≤ 1000000) : ∀ (xs pre : List G_Place) (n : Nat) (pr : Option G_Place), Prv pre pr → pre.length + xs.length = L → xs.length < n → ∀ (R : Type) (e0 : List G_Place → Option R),
  club_ranked_L3 I_club_ranked n (L : Int) (pre.length : Int) (pre ++ xs) e0 = e0 (pre ++ rankL pr pre.length xs)
 | _, _, 0, _, _, _, h, _, _ => by omega
 | [], pre, n + 1, pr, _, hp, _, R, e0 => by rw [club_ranked_L3, decide_eq_false (by simp at hp; omega)]; rfl
 | c :: cs, pre, n + 1, pr, hpr, hp, hn, R, e0 => by
  simp only [List.length_cons] at hp hn
  have hin : ∀ {R : Type} (k : Option R), inr (pre ++ c :: cs) (pre.length : Int) k = k := fun k => inr_nat (by simp) k
  have hat : ∀ {R : Type} (k : G_Place → Option R), at_ (pre ++ c :: cs) (pre.length : Int) k = k c := fun k => at_nat (by simp) k
  have ih := ranked_L3 L hL cs (pre ++ [rk1 pr pre.length c]) n (some (rk1 pr pre.length c)) (.inr ⟨pre, _, rfl, rfl⟩) (by simp; omega) (by omega) R e0
  have el : ((pre ++ [rk1 pr pre.length c]).length : Int) = ((pre.length + 1 : Nat) : Int) := by simp
  have el2 : (pre ++ [rk1 pr pre.length c]).length = pre.length + 1 := by simp
  rw [el, el2] at ih
  have er : pre ++ rankL pr pre.length (c :: cs) = pre ++ [rk1 pr pre.length c] ++ rankL (some (rk1 pr pre.length c)) (pre.length + 1) cs := by simp [rankL]
  rw [er, ← ih]
  rw [club_ranked_L3, decide_eq_true (by omega)]
  simp only [cond_true, hin, hat, w64_succ (show pre.length < 4611686018427387904 by omega), set_nat, set_mid]
  have e2 : ∀ y : G_Place, pre ++ [y] ++ cs = pre ++ y :: cs := fun y => by simp
  rcases hpr with ⟨rfl, rfl⟩ | ⟨pre0, q, rfl, rfl⟩
  ·rw [e2]
   rfl
  ·have hin2 : ∀ {R : Type} (y : G_Place) (k : Option R), inr (pre0 ++ [q] ++ y :: cs) ((pre0 ++ [q]).length : Int) k = k := fun y k => inr_nat (by simp) k
   have hat2 : ∀ {R : Type} (y : G_Place) (k : G_Place → Option R), at_ (pre0 ++ [q] ++ y :: cs) ((pre0 ++ [q]).length : Int) k = k y := fun y k => at_nat (by simp) k
   have hw : w64 (((pre0 ++ [q]).length : Int) - 1) = (pre0.length : Int) := by
    rw [w64_eq (by simp <;> omega) (by simp at hp ⊢; omega)]; simp
   have hin3 : ∀ {R : Type} (y : G_Place) (k : Option R), inr (pre0 ++ [q] ++ y :: cs) (pre0.length : Int) k = k := fun y k => inr_nat (by simp) k
   have hat3 : ∀ {R : Type} (y : G_Place) (k : G_Place → Option R), at_ (pre0 ++ [q] ++ y :: cs) (pre0.length : Int) k = k q := fun y k => at_nat (by simp) k
   rw [decide_eq_true (show ((pre0 ++ [q]).length : Int) > 0 by simp <;> omega), e2]
   simp only [cond_true, hin2, hat2, hw, hin3, hat3, set_mid]
   have e5 : (((pre0 ++ [q]).length + 1 : Nat) : Int) = ((pre0 ++ [q]).length : Int) + 1 := by omega
   cases hb : c.f_Points == q.f_Points with
   | true =>
    have : rk1 (some q) (pre0 ++ [q]).length c = ⟨q.f_Rank, c.f_Points, c.f_Key⟩ := by unfold rk1; simp only [hb]; rfl
    rw [this]; rfl
   | false =>
    have : rk1 (some q) (pre0 ++ [q]).length c = ⟨((pre0 ++ [q]).length : Int) + 1, c.f_Points, c.f_Key⟩ := by unfold rk1; simp only [hb]; rfl
    rw [this, e5]; rfl
def GoodR (top : Int) : Option G_Place → Nat → List G_Place → Prop
 | _, _, [] => True
 | pr, i, y :: ys => (∀ q, pr = some q → y.f_Points ≤ q.f_Points ∧ (y.f_Points = q.f_Points ↔ y.f_Rank = q.f_Rank)) ∧ (y.f_Rank = 1 ↔ y.f_Points = top) ∧ y.f_Points ≤ top ∧ GoodR top (some y) (i + 1) ys
theorem good_of (top : Int) : ∀ (l : List G_Place) (pr : Option G_Place) (i : Nat), l.Pairwise (fun a b => b.f_Points ≤ a.f_Points) →
  (pr = none → i = 0 ∧ ∀ x xs, l = x :: xs → x.f_Points = top) → (∀ q, pr = some q → 1 ≤ q.f_Rank ∧ q.f_Rank ≤ (i : Int) ∧ (q.f_Rank = 1 ↔ q.f_Points = top) ∧ q.f_Points ≤ top ∧ ∀ x ∈ l, x.f_Points ≤ q.f_Points) → GoodR top pr i (rankL pr i l)
 | [], _, _, _, _, _ => trivial
 | p :: ps, pr, i, hs, h0, h1 => by
  have hs' := List.pairwise_cons.1 hs
  have hpk := rk1_pts pr i p
  have hy : (∀ q, pr = some q → (rk1 pr i p).f_Points ≤ q.f_Points ∧ ((rk1 pr i p).f_Points = q.f_Points ↔ (rk1 pr i p).f_Rank = q.f_Rank)) ∧ ((rk1 pr i p).f_Rank = 1 ↔ (rk1 pr i p).f_Points = top) ∧ (rk1 pr i p).f_Points ≤ top ∧ 1 ≤ (rk1 pr i p).f_Rank ∧ (rk1 pr i p).f_Rank ≤ (i : Int) + 1 := by
   cases pr with
   | none =>
    obtain ⟨rfl, h2⟩ := h0 rfl
    have := h2 p ps rfl
    exact ⟨fun q h => (by cases h), by simp [rk1, this], by simp [rk1, this], by simp [rk1], by simp [rk1]⟩
   | some q =>
    obtain ⟨a1, a2, a3, a4, a5⟩ := h1 q rfl
    have a6 := a5 p (by simp)
    cases hb : p.f_Points == q.f_Points with
    | true =>
     have he : p.f_Points = q.f_Points := by simpa using hb
     have hr : rk1 (some q) i p = ⟨q.f_Rank, p.f_Points, p.f_Key⟩ := by unfold rk1; simp only [hb]; rfl
     rw [hr]
     refine ⟨fun q' h => ?_, ?_, ?_, a1, by simp only; omega⟩
     ·cases h; exact ⟨a6, ⟨fun _ => rfl, fun _ => he⟩⟩
     ·simp only [he]; exact a3
     ·simp only; omega
    | false =>
     have hne : p.f_Points ≠ q.f_Points := by simpa using hb
     have hr : rk1 (some q) i p = ⟨(i : Int) + 1, p.f_Points, p.f_Key⟩ := by unfold rk1; simp only [hb]; rfl
     rw [hr]
     refine ⟨fun q' h => ?_, ?_, ?_, by simp only; omega, by simp only; omega⟩
     ·cases h; exact ⟨a6, ⟨fun h => absurd h hne, fun h => by simp only at h; omega⟩⟩
     ·simp only; constructor <;> intro h <;> omega
     ·simp only; omega
  obtain ⟨b1, b2, b3, b4, b5⟩ := hy
  exact ⟨b1, b2, b3, good_of top ps (some (rk1 pr i p)) (i + 1) hs'.2 (fun h => by cases h) (fun q h => by
   cases h
   exact ⟨b4, by omega, b2, b3, fun x hx => by rw [hpk.1]; exact hs'.1 x hx⟩)⟩
def allK : List UInt8 := [97, 108, 108]
theorem allK_ok : keyB allK = true := by
 obtain ⟨m, h, rfl⟩ := fuel_is ‹Fuel›
 kernel_rfl
def cmpPl (x y : G_Place) : Int := orL [cmpI y.f_Points x.f_Points, Lib.compareBytes x.f_Key y.f_Key]
def tabL (x : List G_Entrant) : List G_Place := (x.filter fun e => e.f_Category == allK).map fun e => ⟨0, e.f_Points, e.f_Call⟩
theorem tabL_len (x : List G_Entrant) : (tabL x).length ≤ x.length := by unfold tabL; rw [List.length_map]; exact List.length_filter_le _ _
theorem Table_L8 (x : List G_Entrant) (hl : x.length ≤ 1000) : ∀ (xs : List G_Entrant) (n i : Nat) (out : List G_Place), x.drop i = xs → xs.length < n → out.length + xs.length ≤ 100000 → ∀ (R : Type) (e0 : List G_Place → Option R),
  club_Table_L8 I_club_Table n allK x (x.length : Int) (i : Int) out e0 = e0 (out ++ tabL xs)
 | _, 0, _, _, _, h, _, _, _ => by omega
 | [], n + 1, i, out, h, _, _, R, e0 => by rw [club_Table_L8, ge_drop h]; simp [tabL]
 | e :: es, n + 1, i, out, h, hn, ho, R, e0 => by
  have h' := drop_cons h
  simp at hn
  have hw : w64 ((i : Int) + 1) = ((i + 1 : Nat) : Int) := w64_succ (by have := h'.2.1; omega)
  rw [club_Table_L8, lt_drop h]
  simp only [cond_true, get_drop h, room1 out _ 32 (show out.length ≤ 1000000 by omega) (by omega), hw]
  cases hc : e.f_Category == allK with
  | true =>
   rw [cond_true, Table_L8 x hl es n (i + 1) _ h'.2.2.1 (by omega) (by simp at ho ⊢; omega) R e0]
   simp [tabL, List.filter_cons, hc]
  | false =>
   rw [cond_false, Table_L8 x hl es n (i + 1) _ h'.2.2.1 (by omega) (by simp at ho; omega) R e0]
   simp [tabL, List.filter_cons, hc]
theorem cmpPl_ords : Ords cmpPl := cmp_ranked
theorem cmpPl_le {x y : G_Place} (h : cmpPl x y ≤ 0) : y.f_Points ≤ x.f_Points := by
 rcases Int.lt_or_le x.f_Points y.f_Points with hh | hh
 ·have e : cmpI y.f_Points x.f_Points = 1 := by unfold cmpI; rw [decide_eq_false (by omega), decide_eq_true (by omega)]; rfl
  unfold cmpPl at h
  rw [e] at h
  have : (1 : Int) ≤ 0 := h
  omega
 ·exact hh
noncomputable def tabR (x : List G_Entrant) : List G_Place := rankL none 0 (sortI cmpPl (tabL x))
theorem club_ranked_is {l : List G_Place} (h0 : ∀ y ∈ l, y.f_Rank = 0) (hl : l.length ≤ 100000) (R : Type) (k : List G_Place → Option R) : club_ranked l k = k (rankL none 0 (sortI cmpPl l)) := by
 have hs : ∀ k : List G_Place → Option R, I_club_ranked.slices_SortFunc__Place_club_ranked_1 l k = k (sortI cmpPl l) := fun k =>
  X_sortf_one cmpPl_ords (by omega) (fun x hx y hy h => by
   have h1 := orL_zero.1 h
   have p1 := cmpI_zero.1 (h1 (cmpI y.f_Points x.f_Points) (by simp))
   have p2 := cb_zero _ _ (h1 (Lib.compareBytes x.f_Key y.f_Key) (by simp))
   have q1 := h0 x hx
   have q2 := h0 y hy
   cases x; cases y
   simp only at p1 p2 q1 q2
   subst p2 q1 q2
   rw [p1]) (fun x hx y hy => club_ranked_1_is x y) k
 have hr : ∀ e0 : List G_Place → Option R, club_ranked_L3 I_club_ranked I_club_ranked.N ((sortI cmpPl l).length : Int) 0 (sortI cmpPl l) e0 = e0 (rankL none 0 (sortI cmpPl l)) := fun e0 =>
  ranked_L3 (sortI cmpPl l).length (by rw [sortI_length]; omega) (sortI cmpPl l) [] NN none (.inl ⟨rfl, rfl⟩) (by simp) (by rw [sortI_length]; have := NN_ok; omega) R e0
 simp only [club_ranked, club_ranked_, hs, hr]
theorem club_Table_is {x : List G_Entrant} (hf : ∀ c ∈ x, FineE c) (h0 : faultE x = 0) (hl : x.length ≤ 1000) (R : Type) (k : List G_Place → Int → Option R) : club_Table x allK k = k (tabR x) 0 := by
 have a1 : ∀ k : Int → Option R, I_club_Table.club_CheckEntrants x k = k 0 := fun k => by
  have := club_CheckEntrants_is hf (show x.length ≤ 100000 by omega) R k
  rw [h0] at this
  exact this
 have a2 : ∀ k : Bool → Option R, I_club_Table.kit_IsKey allK k = k true := fun k => by
  have := kit_IsKeyT_is (s := allK) (by decide) R k
  rw [allK_ok] at this
  exact this
 have a3 : ∀ e0 : List G_Place → Option R, club_Table_L8 I_club_Table I_club_Table.N allK x (x.length : Int) 0 [] e0 = e0 (tabL x) := fun e0 => by
  have := Table_L8 x hl x NN 0 [] rfl (by have := NN_ok; omega) (by simp; omega) R e0
  exact this
 have a4 : ∀ k : List G_Place → Option R, I_club_Table.club_ranked (tabL x) k = k (tabR x) := fun k => club_ranked_is (fun y hy => by
  unfold tabL at hy
  obtain ⟨e, _, rfl⟩ := List.mem_map.1 hy
  rfl) (by have := tabL_len x; omega) R k
 simp only [club_Table, club_Table_, a1, bne_self_eq_false, cond_false, a2, Bool.not_true, a3, a4]
def nextF (b : Int) : Int → List G_Entrant → Int
 | nx, [] => nx
 | nx, e :: es => nextF b (bif e.f_Category == allK && (decide (e.f_Points > b) && (decide (nx < 0) || decide (e.f_Points < nx))) then e.f_Points else nx) es
theorem nextF_is (b : Int) (hb : 0 ≤ b) : ∀ (l : List G_Entrant) (nx : Int), (nx = -1 ∨ b < nx) → (nextF b nx l = -1 ∧ nx = -1 ∧ ∀ e ∈ l, e.f_Category = allK → e.f_Points ≤ b) ∨ (b < nextF b nx l ∧ (nextF b nx l = nx ∨ ∃ e ∈ l, e.f_Category = allK ∧ e.f_Points = nextF b nx l))
 | [], nx, h => by
  rcases h with rfl | h
  ·exact .inl ⟨rfl, rfl, fun e h => by cases h⟩
  ·exact .inr ⟨h, .inl rfl⟩
 | e :: es, nx, h => by
  unfold nextF
  cases hc : (e.f_Category == allK && (decide (e.f_Points > b) && (decide (nx < 0) || decide (e.f_Points < nx)))) with
  | true =>
   simp only [Bool.and_eq_true, decide_eq_true_eq] at hc
   obtain ⟨c1, c2, _⟩ := hc
   rw [cond_true]
   rcases nextF_is b hb es e.f_Points (.inr c2) with ⟨h1, h2, _⟩ | ⟨h1, h2⟩
   ·omega
   ·refine .inr ⟨h1, .inr ?_⟩
    rcases h2 with h2 | ⟨d, d1, d2, d3⟩
    ·exact ⟨e, by simp, by simpa using c1, h2.symm⟩
    ·exact ⟨d, by simp [d1], d2, d3⟩
  | false =>
   rw [cond_false]
   rcases nextF_is b hb es nx h with ⟨h1, h2, h3⟩ | ⟨h1, h2⟩
   ·refine .inl ⟨h1, h2, fun d hd hk => ?_⟩
    rcases List.mem_cons.1 hd with rfl | hd
    ·rcases Int.lt_or_le b d.f_Points with hh | hh
     ·have e1 : (d.f_Category == allK) = true := by simpa using hk
      rw [e1, decide_eq_true hh, decide_eq_true (show nx < 0 by omega)] at hc
      cases hc
     ·exact hh
    ·exact h3 d hd hk
   ·refine .inr ⟨h1, ?_⟩
    rcases h2 with h2 | ⟨d, d1, d2, d3⟩
    ·exact .inl h2
    ·exact .inr ⟨d, by simp [d1], d2, d3⟩
theorem Needed_L11 (x : List G_Entrant) (hl : x.length ≤ 1000) (j : Nat) (e : G_Entrant) (hj : x[j]? = some e) : ∀ (xs : List G_Entrant) (n i : Nat) (nx : Int), x.drop i = xs → xs.length < n → ∀ (R : Type) (e0 : List G_Entrant → Int → Int → Option R),
  club_Needed_L11 I_club_Needed n x (j : Int) nx x (x.length : Int) (i : Int) allK e0 = e0 x (j : Int) (nextF e.f_Points nx xs)
 | _, 0, _, _, _, h, _, _ => by omega
 | [], n + 1, i, nx, h, _, R, e0 => by rw [club_Needed_L11, ge_drop h]; rfl
 | d :: ds, n + 1, i, nx, h, hn, R, e0 => by
  have h' := drop_cons h
  simp at hn
  have hw : w64 ((i : Int) + 1) = ((i + 1 : Nat) : Int) := w64_succ (by have := h'.2.1; omega)
  have ih := fun nx => Needed_L11 x hl j e hj ds n (i + 1) nx h'.2.2.1 (by omega) R e0
  rw [club_Needed_L11, lt_drop h]
  have hg : ∀ {R : Type} (k : G_Entrant → Option R), get_ x (j : Int) k = k e := fun k => get_nat hj k
  simp only [cond_true, get_drop h, hg, hw, ih, nextF]
  cases d.f_Category == allK with
  | false => rfl
  | true =>
   cases decide (d.f_Points > e.f_Points) with
   | false => rfl
   | true =>
    cases decide (nx < 0) with
    | true => rfl
    | false =>
     cases decide (d.f_Points < nx) <;> rfl
theorem Needed_idx (x : List G_Entrant) (hl : x.length ≤ 1000) (key : List UInt8) : ∀ (xs : List G_Entrant) (n i : Nat), x.drop i = xs → xs.length < n → (∃ e ∈ xs, e.f_Category = allK ∧ e.f_Call = key) →
  ∃ (j : Nat) (e : G_Entrant), x[j]? = some e ∧ e.f_Category = allK ∧ e.f_Call = key ∧ ∀ (R : Type) (e0 : Int → List UInt8 → List UInt8 → Option R) (e1 : List UInt8 → List UInt8 → Option R), slices_IndexFunc__Entrant_club_Needed_1_L2 I_slices_IndexFunc__Entrant_club_Needed_1 n x (x.length : Int) (i : Int) allK key e0 e1 = e0 (j : Int) allK key
 | _, 0, _, _, h, _ => by omega
 | [], n + 1, i, h, _, hx => by obtain ⟨e, h, _⟩ := hx; cases h
 | d :: ds, n + 1, i, h, hn, hx => by
  have h' := drop_cons h
  simp at hn
  have hw : w64 ((i : Int) + 1) = ((i + 1 : Nat) : Int) := w64_succ (by have := h'.2.1; omega)
  by_cases hd : d.f_Category = allK ∧ d.f_Call = key
  ·refine ⟨i, d, h'.1, hd.1, hd.2, fun R e0 e1 => ?_⟩
   rw [slices_IndexFunc__Entrant_club_Needed_1_L2, lt_drop h]
   simp only [cond_true, get_drop h, I_slices_IndexFunc__Entrant_club_Needed_1, club_Needed_1, club_Needed_1_, hd.1, hd.2, beq_self_eq_true]
  ·obtain ⟨j, e, g1, g2, g3, g4⟩ := Needed_idx x hl key ds n (i + 1) h'.2.2.1 (by omega) (by
    obtain ⟨e, he, h1, h2⟩ := hx
    rcases List.mem_cons.1 he with rfl | he
    ·exact absurd ⟨h1, h2⟩ hd
    ·exact ⟨e, he, h1, h2⟩)
   refine ⟨j, e, g1, g2, g3, fun R e0 e1 => ?_⟩
   rw [slices_IndexFunc__Entrant_club_Needed_1_L2, lt_drop h]
   simp only [I_slices_IndexFunc__Entrant_club_Needed_1] at g4
   simp only [cond_true, get_drop h, I_slices_IndexFunc__Entrant_club_Needed_1, club_Needed_1, club_Needed_1_, hw]
   by_cases h1 : d.f_Category = allK
   ·have h2 : (d.f_Call == key) = false := by rw [beq_eq_false_iff_ne]; exact fun h2 => hd ⟨h1, h2⟩
    rw [h1, h2, beq_self_eq_true]
    simp only [cond_true, cond_false]
    exact g4 R e0 e1
   ·rw [beq_eq_false_iff_ne.2 h1]
    simp only [cond_false]
    exact g4 R e0 e1
theorem chkE_pts {c : G_Entrant} (h : chkE c = 0) : 0 ≤ c.f_Points ∧ c.f_Points ≤ 1000000000000 := by
 unfold chkE at h
 cases h1 : inB c.f_Points 0 1000000000000 with
 | true => exact inB_is.1 h1
 | false =>
  rw [h1] at h
  revert h
  cases callB c.f_Call <;> cases keyB c.f_Category <;> simp
theorem cmpE_zero {a b : G_Entrant} (h1 : a.f_Category = b.f_Category) (h2 : a.f_Call = b.f_Call) : cmpE a b = 0 := by
 unfold cmpE
 rw [h1, h2, orL_zero]
 intro x hx
 simp only [List.mem_cons, List.not_mem_nil, or_false] at hx
 rcases hx with rfl | rfl <;> exact cb_self _
theorem entr_one {x : List G_Entrant} (hup : x.Pairwise fun a b => cmpE a b < 0) {a b : G_Entrant} (ha : a ∈ x) (hb : b ∈ x) (h1 : a.f_Category = b.f_Category) (h2 : a.f_Call = b.f_Call) : a = b := by
 obtain ⟨i, hi, rfl⟩ := List.getElem_of_mem ha
 obtain ⟨j, hj, rfl⟩ := List.getElem_of_mem hb
 rcases Nat.lt_trichotomy i j with h | h | h
 ·have := (List.pairwise_iff_getElem.1 hup) i j hi hj h
  rw [cmpE_zero h1 h2] at this
  omega
 ·subst h; rfl
 ·have := (List.pairwise_iff_getElem.1 hup) j i hj hi h
  rw [cmpE_zero h1.symm h2.symm] at this
  omega
theorem club_Needed_gives {x : List G_Entrant} (hf : ∀ c ∈ x, FineE c) (h0 : faultE x = 0) (hl : x.length ≤ 500) {e : G_Entrant} (he : e ∈ x) (hk : e.f_Category = allK) :
  ∃ n : Int, ((n = 0 ∧ ∀ d ∈ x, d.f_Category = allK → d.f_Points ≤ e.f_Points) ∨ ∃ d ∈ x, d.f_Category = allK ∧ e.f_Points < d.f_Points ∧ n = d.f_Points - e.f_Points + 1) ∧ ∀ (R : Type) (k : Int → Int → Option R), club_Needed x allK e.f_Call k = k n 0 := by
 obtain ⟨hup, hck⟩ := faultE_up h0 hl
 obtain ⟨j, d, g1, g2, g3, g4⟩ := Needed_idx x (by omega) e.f_Call x NN 0 rfl (by have := NN_ok; omega) ⟨e, he, hk, rfl⟩
 have hd : d = e := entr_one hup (List.mem_of_getElem? g1) he (by rw [g2, hk]) g3
 subst hd
 have hp := chkE_pts (hck d he)
 have a1 : ∀ {R : Type} (k : Int → Option R), I_club_Needed.club_CheckEntrants x k = k 0 := fun {R} k => by
  have := club_CheckEntrants_is hf (show x.length ≤ 100000 by omega) R k
  rw [h0] at this
  exact this
 have a2 : ∀ {R : Type} (k : Bool → Option R), I_club_Needed.kit_IsKey allK k = k true := fun {R} k => by
  have := kit_IsKeyT_is (s := allK) (by decide) R k
  rw [allK_ok] at this
  exact this
 have a3 : ∀ {R : Type} (k : Int → List UInt8 → List UInt8 → Option R), I_club_Needed.slices_IndexFunc__Entrant_club_Needed_1 x allK d.f_Call k = k (j : Int) allK d.f_Call := fun {R} k => g4 R _ _
 have a4 : ∀ {R : Type} (e0 : List G_Entrant → Int → Int → Option R), club_Needed_L11 I_club_Needed I_club_Needed.N x (j : Int) (-1) x (x.length : Int) 0 allK e0 = e0 x (j : Int) (nextF d.f_Points (-1) x) := fun {R} e0 => Needed_L11 x (by omega) j d g1 x NN 0 (-1) rfl (by have := NN_ok; omega) R e0
 have hg : ∀ {R : Type} (k : G_Entrant → Option R), get_ x (j : Int) k = k d := fun k => get_nat g1 k
 rcases nextF_is d.f_Points hp.1 x (-1) (.inl rfl) with ⟨h1, _, h3⟩ | ⟨h1, h2⟩
 ·refine ⟨0, .inl ⟨rfl, h3⟩, fun R k => ?_⟩
  simp only [club_Needed, club_Needed_, a1, bne_self_eq_false, cond_false, a2, Bool.not_true, a3, decide_eq_false (show ¬ (j : Int) < 0 by omega), a4, h1]
  rfl
 ·rcases h2 with h2 | ⟨z, z1, z2, z3⟩
  ·omega
  ·have hz := chkE_pts (hck z z1)
   refine ⟨z.f_Points - d.f_Points + 1, .inr ⟨z, z1, z2, by omega, rfl⟩, fun R k => ?_⟩
   simp only [club_Needed, club_Needed_, a1, bne_self_eq_false, cond_false, a2, Bool.not_true, a3, decide_eq_false (show ¬ (j : Int) < 0 by omega), a4, ← z3, decide_eq_false (show ¬ z.f_Points < 0 by omega), hg, w64_eq (x := z.f_Points - d.f_Points) (by omega) (by omega), w64_eq (x := z.f_Points - d.f_Points + 1) (by omega) (by omega)]
theorem TF_L16 (p : List G_Place) (hl : p.length ≤ 1000) (x : List G_Entrant) (y : G_Place) (n len i0 : Int) (hy : w64 (y.f_Points + n) = y.f_Points + n) : ∀ (xs : List G_Place) (m i : Nat) (acc : Int), p.drop i = xs → xs.length < m → 0 ≤ acc → acc ≤ (i : Int) →
  ∃ c : Int, acc ≤ c ∧ ((∃ z ∈ xs, z.f_Points < y.f_Points + n ∧ y.f_Points < z.f_Points) → 0 < c) ∧ ∀ (R : Type) (e0 : Int → Int → Int → Int → List G_Entrant → List G_Place → Option R), keep_TablesAreFair_L16 I_keep_TablesAreFair m n acc len i0 (p.length : Int) (i : Int) x p y e0 = e0 n c len i0 x p
 | _, 0, _, _, _, h, _, _ => by omega
 | [], m + 1, i, acc, h, _, h1, _ => ⟨acc, Int.le_refl _, fun ⟨z, h, _⟩ => (by cases h), fun R e0 => by rw [keep_TablesAreFair_L16, ge_drop h]; rfl⟩
 | z :: zs, m + 1, i, acc, h, hn, h1, h2 => by
  have h' := drop_cons h
  simp at hn
  have hw : w64 ((i : Int) + 1) = ((i + 1 : Nat) : Int) := w64_succ (by have := h'.2.1; omega)
  by_cases hz : z.f_Points < y.f_Points + n ∧ y.f_Points < z.f_Points
  ·obtain ⟨c, g1, g2, g3⟩ := TF_L16 p hl x y n len i0 hy zs m (i + 1) (acc + 1) h'.2.2.1 (by omega) (by omega) (by omega)
   refine ⟨c, by omega, fun _ => by omega, fun R e0 => ?_⟩
   rw [keep_TablesAreFair_L16, lt_drop h]
   simp only [cond_true, inr_drop h, at_drop h, hy, decide_eq_true hz.1, decide_eq_true (show z.f_Points > y.f_Points from hz.2), hw, w64_eq (x := acc + 1) (by omega) (by have := h'.2.1; omega)]
   exact g3 R e0
  ·obtain ⟨c, g1, g2, g3⟩ := TF_L16 p hl x y n len i0 hy zs m (i + 1) acc h'.2.2.1 (by omega) (by omega) (by omega)
   refine ⟨c, g1, fun ⟨w, w1, w2⟩ => ?_, fun R e0 => ?_⟩
   ·rcases List.mem_cons.1 w1 with rfl | w1
    ·exact absurd w2 hz
    ·exact g2 ⟨w, w1, w2⟩
   ·rw [keep_TablesAreFair_L16, lt_drop h]
    simp only [cond_true, inr_drop h, at_drop h, hy, hw]
    by_cases q : z.f_Points < y.f_Points + n
    ·rw [decide_eq_true q, decide_eq_false (show ¬ z.f_Points > y.f_Points by omega)]
     exact g3 R e0
    ·rw [decide_eq_false q]
     exact g3 R e0
theorem TF_L9 {x : List G_Entrant} (hf : ∀ c ∈ x, FineE c) (h0 : faultE x = 0) (hl : x.length ≤ 500) (top : Int) (p : List G_Place) (hpl : p.length ≤ 1000)
  (hmem : ∀ y ∈ p, ∃ e ∈ x, e.f_Category = allK ∧ y.f_Points = e.f_Points ∧ y.f_Key = e.f_Call) (hhas : ∀ e ∈ x, e.f_Category = allK → (∃ z ∈ p, z.f_Points = e.f_Points) ∧ e.f_Points ≤ top) (htop : p ≠ [] → ∃ e ∈ x, e.f_Category = allK ∧ e.f_Points = top) :
  ∀ (xs : List G_Place) (n i : Nat) (pr : Option G_Place), p.drop i = xs → xs.length < n → GoodR top pr i xs → ((i = 0 ∧ pr = none) ∨ ∃ q j, pr = some q ∧ i = j + 1 ∧ p[j]? = some q) →
  ∀ (R : Type) (e0 : Bool → Option R) (e1 : Option R), keep_TablesAreFair_L9 I_keep_TablesAreFair n (p.length : Int) (i : Int) x p e0 e1 = e1
 | _, 0, _, _, _, h, _, _, _, _, _ => by omega
 | [], n + 1, i, pr, h, _, _, _, R, e0, e1 => by rw [keep_TablesAreFair_L9, ge_drop h]; rfl
 | y :: ys, n + 1, i, pr, h, hn, hg, hpr, R, e0, e1 => by
  have h' := drop_cons h
  simp at hn
  obtain ⟨hup, hck⟩ := faultE_up h0 hl
  obtain ⟨e, he1, he2, he3, he4⟩ := hmem y (mem_drop h)
  have hep := chkE_pts (hck e he1)
  obtain ⟨nd, hnd, hrun⟩ := club_Needed_gives hf h0 hl he1 he2
  obtain ⟨b1, b2, b3, b4⟩ := hg
  have hndb : 0 ≤ nd ∧ nd ≤ 1000000000001 := by
   rcases hnd with ⟨h1, _⟩ | ⟨d, d1, d2, d3, d4⟩
   ·omega
   ·have := chkE_pts (hck d d1); omega
  have hneed : ∀ k : Int → Int → Option R, I_keep_TablesAreFair.club_Needed x [97, 108, 108] y.f_Key k = k nd 0 := fun k => by rw [he4]; exact hrun R k
  have hz : (nd == 0) = (y.f_Rank == 1) := by
   rw [Bool.eq_iff_iff, beq_iff_eq, beq_iff_eq, b2]
   rcases hnd with ⟨h1, h2⟩ | ⟨d, d1, d2, d3, d4⟩
   ·refine ⟨fun _ => ?_, fun _ => h1⟩
    obtain ⟨t, t1, t2, t3⟩ := htop (fun e => by rw [e] at h; simp at h)
    have := h2 t t1 t2
    omega
   ·have := (hhas d d1 d2).2
    constructor <;> intro hh <;> omega
  have hw : w64 ((i : Int) + 1) = ((i + 1 : Nat) : Int) := w64_succ (by have := h'.2.1; omega)
  obtain ⟨c, c1, c2, c3⟩ := TF_L16 p hpl x y nd (p.length : Int) (i : Int) (w64_eq (by omega) (by omega)) p NN 0 0 rfl (by have := NN_ok; omega) (by omega) (by omega)
  have c3' : ∀ (R : Type) (e0 : Int → Int → Int → Int → List G_Entrant → List G_Place → Option R), keep_TablesAreFair_L16 I_keep_TablesAreFair I_keep_TablesAreFair.N nd 0 (p.length : Int) (i : Int) (p.length : Int) 0 x p y e0 = e0 nd c (p.length : Int) (i : Int) x p := c3
  have hc : nd > 0 → (c == 0) = false := fun hp => by
   rw [beq_eq_false_iff_ne]
   have : 0 < c := by
    rcases hnd with ⟨h1, _⟩ | ⟨d, d1, d2, d3, d4⟩
    ·omega
    ·obtain ⟨z, z1, z2⟩ := (hhas d d1 d2).1
     exact c2 ⟨z, z1, by omega, by omega⟩
   omega
  have ih := TF_L9 hf h0 hl top p hpl hmem hhas htop ys n (i + 1) (some y) h'.2.2.1 (by omega) b4 (.inr ⟨y, i, rfl, rfl, h'.1⟩) R e0 e1
  rw [keep_TablesAreFair_L9, lt_drop h]
  simp only [cond_true, inr_drop h, at_drop h, hneed, bne_self_eq_false, cond_false, hz, beq_self_eq_true, Bool.not_true, c3', hw, ih]
  have hend : (bif decide (nd > 0) then (bif c == 0 then e0 false else e1) else e1) = e1 := by
   by_cases hp : nd > 0
   ·rw [decide_eq_true hp, hc hp]; rfl
   ·rw [decide_eq_false hp]; rfl
  rcases hpr with ⟨rfl, rfl⟩ | ⟨q, j, rfl, rfl, hq⟩
  ·exact hend
  ·obtain ⟨q1, q2⟩ := b1 q rfl
   have hj : w64 (((j + 1 : Nat) : Int) - 1) = (j : Int) := by rw [w64_eq (by omega) (by have := h'.2.1; omega)]; omega
   have hjl : j < p.length := by have := h'.2.1; omega
   have hbb : (y.f_Points == q.f_Points) = (y.f_Rank == q.f_Rank) := by rw [Bool.eq_iff_iff, beq_iff_eq, beq_iff_eq]; exact q2
   rw [decide_eq_true (show ((j + 1 : Nat) : Int) > 0 by omega)]
   simp only [cond_true, hj, inr_nat hjl, at_nat hq, decide_eq_false (show ¬ y.f_Points > q.f_Points by omega), cond_false, hbb, beq_self_eq_true, Bool.not_true]
   exact hend
theorem keep_TablesAreFair_true (l : List Int) (R : Type) (k : Bool → Option R) : keep_TablesAreFair l k = k true := by
 obtain ⟨x, s1, z1, lx, hx, e1⟩ := Stream_Entrants_gives (sOk0 l) (by omega)
 have e2 : ∀ k : Int → Option R, Q_EntrantsFault x k = k (faultE x) := fun k => Q_EntrantsFault_is hx (by omega) R k
 by_cases h0 : faultE x = 0
 ·obtain ⟨hup, hck⟩ := faultE_up h0 (by omega)
  have e3 : ∀ k : List G_Place → Int → Option R, club_Table x [97, 108, 108] k = k (tabR x) 0 := fun k => club_Table_is hx h0 (by omega) R k
  have hlen : (tabR x).length ≤ 1000 := by
   unfold tabR
   rw [rankL_len, sortI_length]
   have := tabL_len x
   omega
  have hsm : ∀ e ∈ x, e.f_Category = allK → (⟨0, e.f_Points, e.f_Call⟩ : G_Place) ∈ sortI cmpPl (tabL x) := fun e he hk => sortI_mem.2 (List.mem_map.2 ⟨e, List.mem_filter.2 ⟨he, by simpa using hk⟩, rfl⟩)
  have hms : ∀ y ∈ sortI cmpPl (tabL x), ∃ e ∈ x, e.f_Category = allK ∧ y.f_Points = e.f_Points ∧ y.f_Key = e.f_Call := fun y hy => by
   obtain ⟨e, h1, rfl⟩ := List.mem_map.1 (sortI_mem.1 hy)
   have := List.mem_filter.1 h1
   exact ⟨e, this.1, by simpa using this.2, rfl, rfl⟩
  have hsort : (sortI cmpPl (tabL x)).Pairwise fun a b => b.f_Points ≤ a.f_Points := (sortI_sorted (cmpPl_ords.pre fun _ => True) (tabL x) fun _ _ => trivial).imp fun h => cmpPl_le h
  have hmem : ∀ y ∈ tabR x, ∃ e ∈ x, e.f_Category = allK ∧ y.f_Points = e.f_Points ∧ y.f_Key = e.f_Call := fun y hy => by
   obtain ⟨z, z1, z2, z3⟩ := rankL_mem _ _ _ y hy
   obtain ⟨e, h1, h2, h3, h4⟩ := hms z z1
   exact ⟨e, h1, h2, by omega, by rw [z3, h4]⟩
  have hrun : ∀ (e0 : Bool → Option R) (e1 : Option R), keep_TablesAreFair_L9 I_keep_TablesAreFair NN ((tabR x).length : Int) 0 x (tabR x) e0 e1 = e1 := fun e0 e1 => by
   cases hs : sortI cmpPl (tabL x) with
   | nil =>
    have ht : tabR x = [] := by unfold tabR; rw [hs]; rfl
    rw [ht]
    obtain ⟨m, em, hm⟩ := NN_succ
    rw [show NN = m + 1 from em]
    rfl
   | cons f fs =>
    rw [hs] at hsort
    have hf1 := List.pairwise_cons.1 hsort
    have hle : ∀ e ∈ x, e.f_Category = allK → e.f_Points ≤ f.f_Points := fun e he hk => by
     have h1 := hsm e he hk
     rw [hs] at h1
     rcases List.mem_cons.1 h1 with h1 | h1
     ·rw [← h1]; exact Int.le_refl _
     ·exact hf1.1 _ h1
    have hg : GoodR f.f_Points none 0 (tabR x) := by
     unfold tabR
     rw [hs]
     exact good_of f.f_Points (f :: fs) none 0 hsort (fun _ => ⟨rfl, fun a bs h => by cases h; rfl⟩) (fun q h => by cases h)
    exact TF_L9 hx h0 (by omega) f.f_Points (tabR x) hlen hmem (fun e he hk => by
     refine ⟨?_, hle e he hk⟩
     obtain ⟨y, y1, y2⟩ := rankL_has _ none 0 _ (hsm e he hk)
     exact ⟨y, y1, y2⟩) (fun _ => by
     obtain ⟨e, h1, h2, h3, h4⟩ := hms f (by rw [hs]; simp)
     exact ⟨e, h1, h2, h3.symm⟩) (tabR x) NN 0 none rfl (by have := NN_ok; omega) hg (.inl ⟨rfl, rfl⟩) R e0 e1
  simp only [I_keep_TablesAreFair] at hrun
  simp only [keep_TablesAreFair, keep_TablesAreFair_, I_keep_TablesAreFair, e1, e2, h0, bne_self_eq_false, cond_false, e3]
  refine (hrun _ _).trans ?_
  exact keep_ready_is R k
 ·have hb : (faultE x != 0) = true := by simpa using h0
  simp only [keep_TablesAreFair, keep_TablesAreFair_, I_keep_TablesAreFair, e1, e2, hb, cond_true]
  exact keep_ready_is R k
end Go.Am
