/- The plain law, in Lean alone: D2. No condition: lemmas for the claim. -/
import Derived.Test.YtecelackdggokaaGreatDoorPlD1
set_option linter.unusedVariables false
set_option linter.unusedSectionVars false
set_option linter.unusedSimpArgs false
set_option maxRecDepth 100000
namespace Go.Am
open Go Go.Proofs
variable [Fuel]
theorem sortfK_cmp {l : List G_Card} (hl : l.length ≤ 100000) (R : Type) (k : List G_Card → Option R) : slices_SortFunc__Card_club_compareCards l k = k (sortI cmpK l) :=
  X_sortf_one ords_cmpK (by omega) (fun x _ y _ h => cmpK_zero h) (fun x _ y _ => club_compareCards_is x y) k
theorem sortfK_ord {l : List G_Card} (hf : ∀ c ∈ l, FineK c) (hl : l.length ≤ 100000) (R : Type) (k : List G_Card → Option R) : slices_SortFunc__Card_Q_CardOrder l k = k (sortI cmpK l) :=
  X_sortf_one ords_cmpK (by omega) (fun x _ y _ h => cmpK_zero h) (fun x hx y hy => Q_CardOrder_is (hf x hx) (hf y hy)) k
def mergeK (a b : List G_Card) : List G_Card := compactP eq_G_Card (sortI cmpK (a ++ b))
def mergedK (a b : List G_Card) : List G_Card × Int := bif decide (((mergeK a b).length : Int) > 3000) then ([], 2) else (mergeK a b, 0)
theorem mergeK_len (a b : List G_Card) : (mergeK a b).length ≤ a.length + b.length := by
  have h1 := compactP_len eq_G_Card (sortI cmpK (a ++ b))
  have h2 := sortI_length cmpK (a ++ b)
  simp at h2
  unfold mergeK; omega
theorem club_MergeCards_is {a b : List G_Card} (ha : ∀ c ∈ a, FineK c) (hb : ∀ c ∈ b, FineK c) (hla : a.length ≤ 1000) (hlb : b.length ≤ 1000) (R : Type) (k : List G_Card → Int → Option R) :
    club_MergeCards a b k = bif orL [faultK a, faultK b] != 0 then k [] (orL [faultK a, faultK b]) else k (mergedK a b).1 (mergedK a b).2 := by
  have hloop : ∀ (R : Type) (e0 : List G_Card → List G_Card → Int → Option R) (e1 : List G_Card → List G_Card → Option R), club_MergeCards_L2 I_club_MergeCards I_club_MergeCards.N a b ([a, b].length : Int) 0 [a, b] e0 e1 = bif orL [faultK a, faultK b] != 0 then e0 a b (orL [faultK a, faultK b]) else e1 a b := fun R e0 e1 => by
    obtain ⟨m, e, hm⟩ := NN_succ
    obtain ⟨m, rfl⟩ : ∃ q, m = q + 2 := ⟨m - 2, by omega⟩
    have w1 : w64 (0 + 1) = ((1 : Nat) : Int) := w64_eq (by omega) (by omega)
    have w2 : w64 (((1 : Nat) : Int) + 1) = ((2 : Nat) : Int) := by rw [w64_eq (by omega) (by omega)]; rfl
    have i0 : ∀ {R : Type} (k : Option R), inr [a, b] 0 k = k := fun k => inr_nat (i := 0) (by simp) k
    have a0 : ∀ {R : Type} (k : List G_Card → Option R), at_ [a, b] 0 k = k a := fun k => at_nat (i := 0) rfl k
    have i1 : ∀ {R : Type} (k : Option R), inr [a, b] ((1 : Nat) : Int) k = k := fun k => inr_nat (i := 1) (by simp) k
    have a1 : ∀ {R : Type} (k : List G_Card → Option R), at_ [a, b] ((1 : Nat) : Int) k = k b := fun k => at_nat (i := 1) rfl k
    have d0 : decide ((0 : Int) < ([a, b].length : Int)) = true := rfl
    have d1 : decide (((1 : Nat) : Int) < ([a, b].length : Int)) = true := rfl
    have d2 : decide (((2 : Nat) : Int) < ([a, b].length : Int)) = false := rfl
    rw [show I_club_MergeCards.N = m + 2 + 1 from e]
    simp only [club_MergeCards_L2, d0, d1, d2, w1, w2, i0, i1, a0, a1, I_club_MergeCards, cond_true, cond_false, club_CheckCards_is ha (show a.length ≤ 100000 by omega), club_CheckCards_is hb (show b.length ≤ 100000 by omega), orL]
    cases h1 : faultK a != 0 with
    | true => simp only [cond_true, h1]
    | false =>
      simp only [cond_false]
      cases h2 : faultK b != 0 with
      | true => simp only [cond_true, h2]
      | false => simp only [cond_false, bne_self_eq_false]
  have hco : ∀ (R : Type) (k : List G_Card → Option R), slices_Compact__Card (sortI cmpK (a ++ b)) k = k (mergeK a b) := fun R k => compK_is (by rw [sortI_length]; simp; omega) R k
  simp only [I_club_MergeCards] at hloop
  simp only [club_MergeCards, club_MergeCards_, I_club_MergeCards, hloop, catK_is (show a.length ≤ 100000 by omega) (show b.length ≤ 100000 by omega), sortfK_cmp (show (a ++ b).length ≤ 100000 by simp; omega), hco, mergedK]
  cases orL [faultK a, faultK b] != 0 <;> cases decide (((mergeK a b).length : Int) > 3000) <;> rfl
theorem Q_CardsOf_is {a b : List G_Card} (ha : ∀ c ∈ a, FineK c) (hb : ∀ c ∈ b, FineK c) (hla : a.length ≤ 1000) (hlb : b.length ≤ 1000) (R : Type) (k : List G_Card → Int → Option R) :
    Q_CardsOf a b k = k (mergedK a b).1 (mergedK a b).2 := by
  have hab : ∀ c ∈ a ++ b, FineK c := fun c h => by rcases List.mem_append.1 h with h | h; exact ha c h; exact hb c h
  have hco : ∀ (R : Type) (k : List G_Card → Option R), slices_Compact__Card (sortI cmpK (a ++ b)) k = k (mergeK a b) := fun R k => compK_is (by rw [sortI_length]; simp; omega) R k
  simp only [Q_CardsOf, Q_CardsOf_, I_Q_CardsOf, catK_is (show a.length ≤ 100000 by omega) (show b.length ≤ 100000 by omega), sortfK_ord hab (show (a ++ b).length ≤ 100000 by simp; omega), hco, mergedK]
  cases decide (((mergeK a b).length : Int) > 3000) <;> rfl
noncomputable def baseB (s : List UInt8) : List UInt8 := (call_BaseOf s some).getD []
def okStr (a b : Option (List UInt8)) : Bool := match a, b with | some x, some y => x == y && decide (x.length ≤ 100) | _, _ => false
theorem okStr_is {a b : Option (List UInt8)} (h : okStr a b = true) : a = some (a.getD []) ∧ b = some (a.getD []) ∧ (a.getD []).length ≤ 100 := by
  unfold okStr at h
  split at h
  · simp at h; obtain ⟨rfl, h⟩ := h; exact ⟨rfl, rfl, h⟩
  · cases h
theorem bases_ok : callsL.all (fun s => okStr (call_BaseOf s some) (Q_BaseOf s some)) = true := by
  obtain ⟨m, h, rfl⟩ := fuel_is ‹Fuel›
  kernel_rfl
theorem call_BaseOf_is {s : List UInt8} (h : s ∈ callsL) (R : Type) (k : List UInt8 → Option R) : call_BaseOf s k = k (baseB s) :=
  nat_str ok_call_BaseOf.na (args := [.d (.str s)]) (F := @call_BaseOf _ s) (fun _ _ => rfl) (okStr_is (List.all_eq_true.1 bases_ok s h)).1 R k
theorem Q_BaseOf_is {s : List UInt8} (h : s ∈ callsL) (R : Type) (k : List UInt8 → Option R) : Q_BaseOf s k = k (baseB s) :=
  nat_str ok_Q_BaseOf.na (args := [.d (.str s)]) (F := @Q_BaseOf _ s) (fun _ _ => rfl) (okStr_is (List.all_eq_true.1 bases_ok s h)).2.1 R k
noncomputable def keyK (c : G_Card) : G_club_contact := ⟨baseB c.f_Call, c.f_Band, c.f_Mode⟩
theorem club_contactOf_is {c : G_Card} (h : FineK c) (R : Type) (k : G_club_contact → Option R) : club_contactOf c k = k (keyK c) := by
  simp only [club_contactOf, club_contactOf_, I_club_contactOf, call_BaseOf_is h.call, keyK]
theorem Q_with_is {x y : G_Card} (hx : FineK x) (hy : FineK y) (R : Type) (k : Bool → Option R) : Q_with x y k = k (decide (keyK x = keyK y)) := by
  have e : decide (keyK x = keyK y) = bif baseB x.f_Call == baseB y.f_Call then (bif x.f_Band == y.f_Band then x.f_Mode == y.f_Mode else false) else false := by
    rw [Bool.eq_iff_iff]
    simp only [keyK, G_club_contact.mk.injEq, decide_eq_true_eq, Bool.cond_eq_true_distrib]
    by_cases h1 : baseB x.f_Call = baseB y.f_Call <;> by_cases h2 : x.f_Band = y.f_Band <;> simp [h1, h2]
  simp only [Q_with, Q_with_, I_Q_with, Q_BaseOf_is hx.call, Q_BaseOf_is hy.call, e]
  cases baseB x.f_Call == baseB y.f_Call <;> cases x.f_Band == y.f_Band <;> rfl
noncomputable def confK (at0 : Int) : List G_Card → List G_Card → List G_Card
  | out, [] => out
  | out, c :: cs => bif decide (c.f_At ≤ at0) && (c.f_Kind == 2 && !(out.any fun o => decide (keyK o = keyK c))) then confK at0 (out ++ [c]) cs else confK at0 out cs
theorem confK_mem (at0 : Int) : ∀ (l out : List G_Card) (x : G_Card), x ∈ confK at0 out l → x ∈ out ∨ x ∈ l
  | [], out, x, h => .inl h
  | c :: cs, out, x, h => by
    unfold confK at h
    cases hq : (decide (c.f_At ≤ at0) && (c.f_Kind == 2 && !(out.any fun o => decide (keyK o = keyK c)))) with
    | true =>
      rw [hq] at h
      rcases confK_mem at0 cs _ x h with h | h
      · rcases List.mem_append.1 h with h | h
        · exact .inl h
        · simp at h; exact .inr (by simp [h])
      · exact .inr (by simp [h])
    | false =>
      rw [hq] at h
      rcases confK_mem at0 cs _ x h with h | h
      · exact .inl h
      · exact .inr (by simp [h])
theorem confK_len (at0 : Int) : ∀ (l out : List G_Card), (confK at0 out l).length ≤ out.length + l.length
  | [], out => by simp [confK]
  | c :: cs, out => by
    unfold confK
    have h1 := confK_len at0 cs (out ++ [c])
    have h2 := confK_len at0 cs out
    simp at h1
    cases (decide (c.f_At ≤ at0) && (c.f_Kind == 2 && !(out.any fun o => decide (keyK o = keyK c)))) <;> simp <;> omega
theorem club_confirmed_loop (d : List G_Card) (hf : ∀ c ∈ d, FineK c) (hl : d.length ≤ 100000) (at0 : Int) : ∀ (xs : List G_Card) (n i : Nat) (m : List (G_club_contact × Bool)) (out : List G_Card), d.drop i = xs → xs.length < n → out.length ≤ i → (∀ w, (mget_club_contact_bool w m).getD false = out.any fun o => decide (keyK o = w)) →
    ∀ (R : Type) (e0 : List G_Card → Option R), club_confirmed_L4 I_club_confirmed n at0 d (d.length : Int) (i : Int) m out e0 = e0 (confK at0 out xs)
  | _, 0, _, _, _, _, h, _, _, _, _ => by omega
  | [], n + 1, i, m, out, h, _, _, _, R, e0 => by rw [club_confirmed_L4, ge_drop h]; rfl
  | c :: cs, n + 1, i, m, out, h, hn, ho, hm, R, e0 => by
    have h' := drop_cons h
    have ih1 := club_confirmed_loop d hf hl at0 cs n (i + 1) m out h'.2.2.1 (by simp at hn; omega) (by omega) hm R e0
    have ih2 := club_confirmed_loop d hf hl at0 cs n (i + 1) (mset_club_contact_bool (keyK c) true m) (out ++ [c]) h'.2.2.1 (by simp at hn; omega) (by simp; omega) (fun w => by
      have e := hm w
      rw [lm_get_club_contact_bool] at e ⊢
      rw [lm_set_club_contact_bool, aget_aset keq_club_contact_is, List.any_append]
      cases hq : keq_club_contact w (keyK c) with
      | true => have := (keq_club_contact_is w (keyK c)).1 hq; simp [this]
      | false =>
        have : keyK c ≠ w := fun e => by rw [e, (keq_club_contact_is w w).2 rfl] at hq; cases hq
        simp only [cond_false]
        rw [e]; simp [this]) R e0
    rw [club_confirmed_L4, lt_drop h]
    simp only [I_club_confirmed] at ih1 ih2
    simp only [cond_true, get_drop h, I_club_confirmed, club_contactOf_is (hf c (mem_drop h)), hm, w64_succ (show i < 4611686018427387904 by omega), ih1, ih2, room1 out c 56 (show out.length ≤ 1000000 by omega) (by omega), confK]
    cases decide (c.f_At ≤ at0) <;> cases c.f_Kind == 2 <;> cases (out.any fun o => decide (keyK o = keyK c)) <;> rfl
theorem club_confirmed_is {d : List G_Card} (hf : ∀ c ∈ d, FineK c) (hl : d.length ≤ 100000) (at0 : Int) (R : Type) (k : List G_Card → Option R) : club_confirmed d at0 k = k (confK at0 [] d) := by
  have h : ∀ e0 : List G_Card → Option R, club_confirmed_L4 I_club_confirmed I_club_confirmed.N at0 d (d.length : Int) 0 [] [] e0 = e0 (confK at0 [] d) := fun e0 =>
    club_confirmed_loop d hf hl at0 d I_club_confirmed.N 0 [] [] rfl (show d.length < NN by have := NN_ok; omega) (by simp) (fun w => by rw [mget_club_contact_bool_nil]; rfl) R e0
  simp only [club_confirmed, club_confirmed_, h]
theorem Q_ConfirmedBy_loop (d : List G_Card) (hf : ∀ c ∈ d, FineK c) (hl : d.length ≤ 100000) (at0 : Int) : ∀ (xs : List G_Card) (n i : Nat) (out : List G_Card), d.drop i = xs → xs.length < n → out.length ≤ i → (∀ c ∈ out, FineK c) →
    ∀ (R : Type) (e0 : List G_Card → Option R), Q_ConfirmedBy_L3 I_Q_ConfirmedBy n at0 d (d.length : Int) (i : Int) out e0 = e0 (confK at0 out xs)
  | _, 0, _, _, _, h, _, _, _, _ => by omega
  | [], n + 1, i, out, h, _, _, _, R, e0 => by rw [Q_ConfirmedBy_L3, ge_drop h]; rfl
  | c :: cs, n + 1, i, out, h, hn, ho, hfo, R, e0 => by
    have h' := drop_cons h
    have hc := hf c (mem_drop h)
    have ih1 := Q_ConfirmedBy_loop d hf hl at0 cs n (i + 1) out h'.2.2.1 (by simp at hn; omega) (by omega) hfo R e0
    have ih2 := Q_ConfirmedBy_loop d hf hl at0 cs n (i + 1) (out ++ [c]) h'.2.2.1 (by simp at hn; omega) (by simp; omega) (fun x hx => by
      rcases List.mem_append.1 hx with hx | hx
      · exact hfo x hx
      · simp at hx; rw [hx]; exact hc) R e0
    have hcon : ∀ (R : Type) (k : Bool → G_Card → Option R), slices_ContainsFunc__Card_Q_ConfirmedBy_1 out c k = k (out.any fun o => decide (keyK o = keyK c)) c := fun R k => by
      simp only [slices_ContainsFunc__Card_Q_ConfirmedBy_1, slices_ContainsFunc__Card_Q_ConfirmedBy_1_, I_slices_ContainsFunc__Card_Q_ConfirmedBy_1, li_slices_IndexFunc__Card_Q_ConfirmedBy_1]
      rw [sIndexF_is _ (fun o => decide (keyK o = keyK c)) c out (fun x hx R k => by
        simp only [Q_ConfirmedBy_1, Q_ConfirmedBy_1_, I_Q_ConfirmedBy_1, Q_with_is (hfo x hx) hc]) (by have := NN_ok; omega) (by have := NN_ok; omega), idxI_ge]
    rw [Q_ConfirmedBy_L3, lt_drop h]
    simp only [I_Q_ConfirmedBy] at ih1 ih2
    simp only [cond_true, get_drop h, I_Q_ConfirmedBy, hcon, w64_succ (show i < 4611686018427387904 by omega), ih1, ih2, room1 out c 56 (show out.length ≤ 1000000 by omega) (by omega), confK]
    cases decide (c.f_At ≤ at0) <;> cases c.f_Kind == 2 <;> cases (out.any fun o => decide (keyK o = keyK c)) <;> rfl
theorem Q_ConfirmedBy_is {d : List G_Card} (hf : ∀ c ∈ d, FineK c) (hl : d.length ≤ 100000) (at0 : Int) (R : Type) (k : List G_Card → Option R) : Q_ConfirmedBy d at0 k = k (confK at0 [] d) := by
  have h : ∀ e0 : List G_Card → Option R, Q_ConfirmedBy_L3 I_Q_ConfirmedBy I_Q_ConfirmedBy.N at0 d (d.length : Int) 0 [] e0 = e0 (confK at0 [] d) := fun e0 =>
    Q_ConfirmedBy_loop d hf hl at0 d I_Q_ConfirmedBy.N 0 [] rfl (show d.length < NN by have := NN_ok; omega) (by simp) (fun c h => by cases h) R e0
  simp only [Q_ConfirmedBy, Q_ConfirmedBy_, h]
noncomputable def faultAt (l : List G_Card) (at0 : Int) : Int := orL [faultK l, bif momB at0 then 0 else 1]
theorem club_cardsFault_is {l : List G_Card} (hf : ∀ c ∈ l, FineK c) (hl : l.length ≤ 100000) (at0 : Int) (R : Type) (k : Int → Option R) : club_cardsFault l at0 k = k (faultAt l at0) := by
  simp only [club_cardsFault, club_cardsFault_, I_club_cardsFault, club_CheckCards_is hf hl, kit_IsMoment_is, faultAt, orL]
  cases faultK l != 0 <;> cases momB at0 <;> rfl
theorem Q_MomentFault_is (at0 : Int) (R : Type) (k : Int → Option R) : Q_MomentFault at0 k = k (bif momB at0 then 0 else 1) := by
  simp only [Q_MomentFault, Q_MomentFault_, I_Q_MomentFault, Q_Moment_is]
  cases momB at0 <;> rfl
theorem faultAt_zero {l : List G_Card} {at0 : Int} (h : faultAt l at0 = 0) : faultK l = 0 := (orL_zero.1 h) _ (by simp)
theorem club_Confirmed_is {l : List G_Card} (hf : ∀ c ∈ l, FineK c) (hl : l.length ≤ 100000) (at0 : Int) (R : Type) (k : List G_Card → Int → Option R) : club_Confirmed l at0 k = bif faultAt l at0 != 0 then k [] (faultAt l at0) else k (confK at0 [] l) 0 := by
  simp only [club_Confirmed, club_Confirmed_, I_club_Confirmed, club_cardsFault_is hf hl, club_confirmed_is hf hl]
end Go.Am
