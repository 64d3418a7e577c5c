/- The plain law, in Lean alone: D3. No condition: lemmas for the claim. -/
import Derived.Test.YtecelackdggokaaGreatDoorPlD2
import Derived.Test.YtecelackdggokaaGreatDoorPlE1
set_option linter.unusedVariables false
set_option linter.unusedSectionVars false
set_option linter.unusedSimpArgs false
set_option maxRecDepth 100000
namespace Go.Am
open Go Go.Proofs
variable [Fuel]
theorem bytesLess_is : ∀ a b : List UInt8, Op.bytesLess a b = decide (Lib.compareBytes a b < 0)
  | [], [] => by simp [Op.bytesLess, Lib.compareBytes]
  | _ :: _, [] => by simp [Op.bytesLess, Lib.compareBytes]
  | [], _ :: _ => by simp [Op.bytesLess, Lib.compareBytes]
  | x :: xs, y :: ys => by
    unfold Op.bytesLess Lib.compareBytes
    by_cases h1 : x < y
    · simp [h1]
    · by_cases h2 : y < x
      · have h3 : ¬ x = y := fun e => by subst e; exact h1 h2
        simp [h1, h2, h3]
      · have h3 := u8 h1 h2
        subst h3
        simp [h1, bytesLess_is xs ys]
theorem cmp_Compare__string_is (a b : List UInt8) (R : Type) (k : Int → Option R) : cmp_Compare__string a b k = k (Lib.compareBytes a b) := by
  simp only [cmp_Compare__string, cmp_Compare__string_, I_cmp_Compare__string, cmp_isNaN__string, cmp_isNaN__string_, beq_self_eq_true, Bool.not_true, cond_false, bytesLess_is]
  rcases cb_cases a b with h | h | h
  · rw [h]; rfl
  · have e := cb_zero a b h
    subst e
    rw [h, beq_self_eq_true]; rfl
  · have e : (a == b) = false := by
      cases hq : a == b with
      | false => rfl
      | true => have := eq_of_beq hq; subst this; rw [cb_self] at h; cases h
    rw [h, e]; rfl
def cmpP (x y : G_Pair) : Int := orL [Lib.compareBytes x.f_Name y.f_Name, Lib.compareBytes x.f_Value y.f_Value]
theorem ords_cmpP : Ords cmpP := .lex (ords_cb.on fun c : G_Pair => c.f_Name) (.lex (ords_cb.on fun c : G_Pair => c.f_Value) .nil)
theorem cmpP_zero {x y : G_Pair} (h : cmpP x y = 0) : x = y := by
  unfold cmpP at h
  rw [orL_zero] at h
  simp only [List.mem_cons, List.not_mem_nil, or_false, forall_eq_or_imp, forall_eq, cb_eq_zero] at h
  obtain ⟨h1, h2⟩ := h
  cases x; cases y
  simp only at h1 h2
  subst h1 h2
  rfl
theorem club_Owed_1_is (x y : G_Pair) (R : Type) (k : Int → Option R) : club_Owed_1 x y k = k (cmpP x y) := by
  simp only [club_Owed_1, club_Owed_1_, I_club_Owed_1, cmpP, strings_Compare_is]
  rw [cmp_Or__int_is _ (by simp)]
theorem slices_Compare_two (a b c d : List UInt8) (R : Type) (k : Int → Option R) : slices_Compare__string [a, b] [c, d] k = k (orL [Lib.compareBytes a c, Lib.compareBytes b d]) := by
  obtain ⟨m, e, hm⟩ := NN_succ
  obtain ⟨m, rfl⟩ : ∃ q, m = q + 2 := ⟨m - 2, by omega⟩
  have w1 : w64 (0 + 1) = ((1 : Nat) : Int) := w64_eq (by omega) (by omega)
  have w2 : w64 (((1 : Nat) : Int) + 1) = ((2 : Nat) : Int) := by rw [w64_eq (by omega) (by omega)]; rfl
  have a0 : ∀ {R : Type} (x y : List UInt8) (k : List UInt8 → Option R), get_ [x, y] 0 k = k x := fun x y k => get_nat (i := 0) rfl k
  have a1 : ∀ {R : Type} (x y : List UInt8) (k : List UInt8 → Option R), get_ [x, y] ((1 : Nat) : Int) k = k y := fun x y k => get_nat (i := 1) rfl k
  have d0 : decide ((0 : Int) < ([a, b].length : Int)) = true := rfl
  have d1 : decide (((1 : Nat) : Int) < ([a, b].length : Int)) = true := rfl
  have d2 : decide (((2 : Nat) : Int) < ([a, b].length : Int)) = false := rfl
  have f0 : decide ((0 : Int) ≥ ([c, d].length : Int)) = false := rfl
  have f1 : decide (((1 : Nat) : Int) ≥ ([c, d].length : Int)) = false := rfl
  have f2 : decide (([a, b].length : Int) < ([c, d].length : Int)) = false := rfl
  simp only [slices_Compare__string, slices_Compare__string_]
  rw [show I_slices_Compare__string.N = m + 2 + 1 from e]
  simp only [slices_Compare__string_L2, d0, d1, d2, f0, f1, f2, w1, w2, a0, a1, I_slices_Compare__string, cond_true, cond_false, cmp_Compare__string_is, orL]
  cases h1 : Lib.compareBytes a c != 0 with
  | true => simp only [cond_true]
  | false =>
    simp only [cond_false]
    cases h2 : Lib.compareBytes b d != 0 with
    | true => simp only [cond_true]
    | false => simp only [cond_false]
theorem Q_OwedBy_2_is (x y : G_Pair) (R : Type) (k : Int → Option R) : Q_OwedBy_2 x y k = k (cmpP x y) := by
  simp only [Q_OwedBy_2, Q_OwedBy_2_, I_Q_OwedBy_2, slices_Compare_two, cmpP]
theorem sortfP_owed {l : List G_Pair} (hl : l.length ≤ 100000) (R : Type) (k : List G_Pair → Option R) : slices_SortFunc__Pair_club_Owed_1 l k = k (sortI cmpP l) :=
  X_sortf_one ords_cmpP (by omega) (fun x _ y _ h => cmpP_zero h) (fun x _ y _ => club_Owed_1_is x y) k
theorem sortfP_by {l : List G_Pair} (hl : l.length ≤ 100000) (R : Type) (k : List G_Pair → Option R) : slices_SortFunc__Pair_Q_OwedBy_2 l k = k (sortI cmpP l) :=
  X_sortf_one ords_cmpP (by omega) (fun x _ y _ h => cmpP_zero h) (fun x _ y _ => Q_OwedBy_2_is x y) k
noncomputable def sentF (at0 : Int) (w : G_club_contact) : Bool → List G_Card → Bool
  | b, [] => b
  | b, c :: cs => bif decide (c.f_At > at0) then sentF at0 w b cs else bif c.f_Kind == 1 then sentF at0 w (bif decide (keyK c = w) then true else b) cs else bif c.f_Kind == 3 then sentF at0 w (bif decide (keyK c = w) then false else b) cs else sentF at0 w b cs
noncomputable def retK (at0 : Int) (w : G_club_contact) (c : G_Card) : Bool := c.f_Kind == 3 && (decide (c.f_At ≤ at0) && decide (keyK c = w))
noncomputable def sentR (at0 : Int) (w : G_club_contact) : Bool → List G_Card → Bool
  | b, [] => b
  | b, c :: cs => bif c.f_Kind != 1 then sentR at0 w b cs else bif decide (c.f_At > at0) then sentR at0 w b cs else bif !decide (keyK c = w) then sentR at0 w b cs else bif b then sentR at0 w true cs else sentR at0 w (!(cs.any (retK at0 w))) cs
theorem sentR_true (at0 : Int) (w : G_club_contact) : ∀ l : List G_Card, sentR at0 w true l = true
  | [] => rfl
  | c :: cs => by
    unfold sentR
    rw [sentR_true at0 w cs]
    cases c.f_Kind != 1 <;> cases decide (c.f_At > at0) <;> cases decide (keyK c = w) <;> rfl
theorem sentF_is (at0 : Int) (w : G_club_contact) : ∀ (l : List G_Card) (b : Bool), sentF at0 w b l = (sentR at0 w false l || (b && !(l.any (retK at0 w))))
  | [], b => by simp [sentF, sentR]
  | c :: cs, b => by
    unfold sentF sentR
    rw [List.any_cons]
    have h1 := sentF_is at0 w cs
    by_cases ha : c.f_At > at0
    · have ha' : decide (c.f_At ≤ at0) = false := decide_eq_false (by omega)
      rw [decide_eq_true ha, h1]
      have hr : retK at0 w c = false := by simp [retK, ha']
      rw [hr]
      cases c.f_Kind != 1 <;> rfl
    · have ha' : decide (c.f_At ≤ at0) = true := decide_eq_true (by omega)
      rw [decide_eq_false ha]
      simp only [cond_false]
      by_cases hk1 : c.f_Kind = 1
      · have e1 : (c.f_Kind == 1) = true := by simp [hk1]
        have e2 : (c.f_Kind != 1) = false := by simp [hk1]
        have e3 : retK at0 w c = false := by simp [retK, hk1]
        rw [e1, e2, e3]
        cases hw : decide (keyK c = w) with
        | false => simp only [cond_true, cond_false, Bool.not_false, h1, Bool.false_or]
        | true =>
          simp only [cond_true, cond_false, Bool.not_true, h1, Bool.false_or, Bool.true_and]
          cases cs.any (retK at0 w) with
          | true => simp
          | false => simp [sentR_true]
      · have e1 : (c.f_Kind == 1) = false := by simp [hk1]
        have e2 : (c.f_Kind != 1) = true := by simp [hk1]
        rw [e1, e2]
        simp only [cond_true, cond_false]
        cases h3 : c.f_Kind == 3 with
        | false =>
          have e3 : retK at0 w c = false := by simp [retK, h3]
          rw [e3]; simp only [h1, cond_false, Bool.false_or]
        | true =>
          simp only [cond_true, h1]
          cases hw : decide (keyK c = w) with
          | false =>
            have e3 : retK at0 w c = false := by simp [retK, hw]
            rw [e3]; simp only [cond_false, Bool.false_or]
          | true =>
            have e3 : retK at0 w c = true := by simp [retK, h3, ha', hw]
            rw [e3]; simp
theorem sentF_false (at0 : Int) (w : G_club_contact) (l : List G_Card) : sentF at0 w false l = sentR at0 w false l := by rw [sentF_is]; simp
def modeW (m : Int) : List UInt8 := (([[], [99, 111, 100, 101], [118, 111, 105, 99, 101], [100, 97, 116, 97]] : List (List UInt8))[m.toNat]?).getD []
theorem modeW_at {m : Int} (h1 : 1 ≤ m) (h2 : m ≤ 3) {R : Type} (k : List UInt8 → Option R) :
    inr ([[], [99, 111, 100, 101], [118, 111, 105, 99, 101], [100, 97, 116, 97]] : List (List UInt8)) m (at_ ([[], [99, 111, 100, 101], [118, 111, 105, 99, 101], [100, 97, 116, 97]] : List (List UInt8)) m k) = k (modeW m) := by
  rcases (by omega : m = 1 ∨ m = 2 ∨ m = 3) with rfl | rfl | rfl <;> rfl
theorem modeW_len (m : Int) : (modeW m).length ≤ 5 := by
  unfold modeW
  rcases m.toNat with _ | _ | _ | _ | n <;> simp
noncomputable def pairK (c : G_Card) : G_Pair := ⟨baseB c.f_Call, (c.f_Band ++ [32]) ++ modeW c.f_Mode⟩
noncomputable def owedL (f : G_Card → Bool) : List G_Pair → List G_Card → List G_Pair
  | out, [] => out
  | out, c :: cs => bif !f c then owedL f (out ++ [pairK c]) cs else owedL f out cs
theorem owedL_len (f : G_Card → Bool) : ∀ (l : List G_Card) (out : List G_Pair), (owedL f out l).length ≤ out.length + l.length
  | [], out => by simp [owedL]
  | c :: cs, out => by
    unfold owedL
    have h1 := owedL_len f cs (out ++ [pairK c])
    have h2 := owedL_len f cs out
    simp at h1
    cases f c <;> simp <;> omega
theorem keysL_len : ∀ s ∈ keysL, s.length ≤ 3 := by decide
theorem strOk_is {a b : List UInt8} (h : a.length + b.length ≤ 1000) : strOk a b = true := by
  unfold strOk
  exact decide_eq_true (by omega)
theorem club_Owed_loop (d : List G_Card) (hf : ∀ c ∈ d, FineK c) (hl : d.length ≤ 100000) (at0 : Int) : ∀ (xs : List G_Card) (n i : Nat) (m : List (G_club_contact × Bool)), d.drop i = xs → xs.length < n →
    ∃ m', (∀ w, (mget_club_contact_bool w m').getD false = sentF at0 w ((mget_club_contact_bool w m).getD false) xs) ∧ ∀ (R : Type) (e0 : List G_Card → Int → List (G_club_contact × Bool) → Option R), club_Owed_L6 I_club_Owed n d at0 d (d.length : Int) (i : Int) m e0 = e0 d at0 m'
  | _, 0, _, _, _, h => by omega
  | [], n + 1, i, m, h, _ => ⟨m, fun w => by rw [sentF], fun R e0 => by rw [club_Owed_L6, ge_drop h]; rfl⟩
  | c :: cs, n + 1, i, m, h, hn => by
    have h' := drop_cons h
    have set_is : ∀ (v : Bool) w, (mget_club_contact_bool w (mset_club_contact_bool (keyK c) v m)).getD false = bif decide (keyK c = w) then v else (mget_club_contact_bool w m).getD false := fun v w => by
      rw [lm_get_club_contact_bool, lm_set_club_contact_bool, aget_aset keq_club_contact_is]
      cases hq : keq_club_contact w (keyK c) with
      | true => have := (keq_club_contact_is w (keyK c)).1 hq; simp [this]
      | false =>
        have : keyK c ≠ w := fun e => by rw [e, (keq_club_contact_is w w).2 rfl] at hq; cases hq
        simp [this]
    have step : ∀ m2, ∃ m', (∀ w, (mget_club_contact_bool w m').getD false = sentF at0 w ((mget_club_contact_bool w m2).getD false) cs) ∧ ∀ (R : Type) (e0 : List G_Card → Int → List (G_club_contact × Bool) → Option R), club_Owed_L6 I_club_Owed n d at0 d (d.length : Int) ((i + 1 : Nat) : Int) m2 e0 = e0 d at0 m' :=
      fun m2 => club_Owed_loop d hf hl at0 cs n (i + 1) m2 h'.2.2.1 (by simp at hn; omega)
    have hrun : ∀ (R : Type) (e0 : List G_Card → Int → List (G_club_contact × Bool) → Option R), club_Owed_L6 I_club_Owed (n + 1) d at0 d (d.length : Int) (i : Int) m e0 =
        bif decide (c.f_At > at0) then club_Owed_L6 I_club_Owed n d at0 d (d.length : Int) ((i + 1 : Nat) : Int) m e0 else bif c.f_Kind == 1 then club_Owed_L6 I_club_Owed n d at0 d (d.length : Int) ((i + 1 : Nat) : Int) (mset_club_contact_bool (keyK c) true m) e0 else bif c.f_Kind == 3 then club_Owed_L6 I_club_Owed n d at0 d (d.length : Int) ((i + 1 : Nat) : Int) (mset_club_contact_bool (keyK c) false m) e0 else club_Owed_L6 I_club_Owed n d at0 d (d.length : Int) ((i + 1 : Nat) : Int) m e0 := fun R e0 => by
      rw [club_Owed_L6, lt_drop h]
      simp only [cond_true, get_drop h, I_club_Owed, club_contactOf_is (hf c (mem_drop h)), w64_succ (show i < 4611686018427387904 by omega)]
    have hs : ∀ w b, sentF at0 w b (c :: cs) = bif decide (c.f_At > at0) then sentF at0 w b cs else bif c.f_Kind == 1 then sentF at0 w (bif decide (keyK c = w) then true else b) cs else bif c.f_Kind == 3 then sentF at0 w (bif decide (keyK c = w) then false else b) cs else sentF at0 w b cs := fun w b => by rw [sentF]
    simp only [hrun, hs]
    cases decide (c.f_At > at0) with
    | true => simp only [cond_true]; exact step m
    | false =>
      simp only [cond_false]
      cases c.f_Kind == 1 with
      | true =>
        simp only [cond_true]
        obtain ⟨m', g1, g2⟩ := step (mset_club_contact_bool (keyK c) true m)
        exact ⟨m', fun w => by rw [g1, set_is], g2⟩
      | false =>
        simp only [cond_false]
        cases c.f_Kind == 3 with
        | true =>
          simp only [cond_true]
          obtain ⟨m', g1, g2⟩ := step (mset_club_contact_bool (keyK c) false m)
          exact ⟨m', fun w => by rw [g1, set_is], g2⟩
        | false => simp only [cond_false]; exact step m
theorem club_Owed_out (d : List G_Card) (hf : ∀ c ∈ d, FineK c) (hk : ∀ c ∈ d, chkK c = 0) (hl : d.length ≤ 100000) (m : List (G_club_contact × Bool)) : ∀ (xs : List G_Card) (n i : Nat) (out : List G_Pair), d.drop i = xs → xs.length < n → out.length ≤ i →
    ∀ (R : Type) (e0 : List G_Pair → Option R), club_Owed_L16 I_club_Owed n (d.length : Int) (i : Int) m d out e0 = e0 (owedL (fun c => (mget_club_contact_bool (keyK c) m).getD false) out xs)
  | _, 0, _, _, _, h, _, _, _ => by omega
  | [], n + 1, i, out, h, _, _, R, e0 => by rw [club_Owed_L16, ge_drop h]; rfl
  | c :: cs, n + 1, i, out, h, hn, ho, R, e0 => by
    have h' := drop_cons h
    have hc := hf c (mem_drop h)
    have hm := chkK_mode (hk c (mem_drop h))
    have hb := keysL_len _ hc.band
    have hw := modeW_len c.f_Mode
    have ih1 := club_Owed_out d hf hk hl m cs n (i + 1) out h'.2.2.1 (by simp at hn; omega) (by omega) R e0
    have ih2 := club_Owed_out d hf hk hl m cs n (i + 1) (out ++ [pairK c]) h'.2.2.1 (by simp at hn; omega) (by simp; omega) R e0
    rw [club_Owed_L16, lt_drop h]
    simp only [I_club_Owed] at ih1 ih2
    have hmw : ∀ {R : Type} (k : List (List UInt8) → Option R), kit_ModeWords k = k [[], [99, 111, 100, 101], [118, 111, 105, 99, 101], [100, 97, 116, 97]] := fun k => rfl
    have e1 : (keyK c).f_band = c.f_Band := rfl
    have e2 : (keyK c).f_mode = c.f_Mode := rfl
    have e3 : (keyK c).f_base = baseB c.f_Call := rfl
    simp only [cond_true, inr_drop h, at_drop h, I_club_Owed, club_contactOf_is hc, hmw, e1, e2, e3, modeW_at hm.1 hm.2, strOk_is (show c.f_Band.length + ([32] : List UInt8).length ≤ 1000 by simp; omega), strOk_is (show (c.f_Band ++ [32]).length + (modeW c.f_Mode).length ≤ 1000 by simp; omega), w64_succ (show i < 4611686018427387904 by omega), room1 out _ 32 (show out.length ≤ 1000000 by omega) (by omega), ih1, owedL]
    rw [show (⟨baseB c.f_Call, (c.f_Band ++ [32]) ++ modeW c.f_Mode⟩ : G_Pair) = pairK c from rfl, ih2]
    cases (mget_club_contact_bool (keyK c) m).getD false <;> rfl
noncomputable def owedK (at0 : Int) (l : List G_Card) : List G_Pair := sortI cmpP (owedL (fun c => sentF at0 (keyK c) false l) [] (confK at0 [] l))
theorem owedL_congr {f g : G_Card → Bool} : ∀ (l : List G_Card) (out : List G_Pair), (∀ c ∈ l, f c = g c) → owedL f out l = owedL g out l
  | [], out, _ => rfl
  | c :: cs, out, h => by
    unfold owedL
    rw [h c (by simp), owedL_congr cs _ fun x hx => h x (by simp [hx]), owedL_congr cs out fun x hx => h x (by simp [hx])]
theorem club_Owed_is {l : List G_Card} (hf : ∀ c ∈ l, FineK c) (hl : l.length ≤ 100000) (at0 : Int) (R : Type) (k : List G_Pair → Int → Option R) : club_Owed l at0 k = bif faultAt l at0 != 0 then k [] (faultAt l at0) else k (owedK at0 l) 0 := by
  obtain ⟨m', g1, g2⟩ := club_Owed_loop l hf hl at0 l NN 0 [] rfl (show l.length < NN by have := NN_ok; omega)
  have g2' : ∀ (R : Type) (e0 : List G_Card → Int → List (G_club_contact × Bool) → Option R), club_Owed_L6 I_club_Owed I_club_Owed.N l at0 l (l.length : Int) 0 [] e0 = e0 l at0 m' := g2
  simp only [I_club_Owed] at g2'
  simp only [club_Owed, club_Owed_, I_club_Owed, club_cardsFault_is hf hl, g2', club_confirmed_is hf hl]
  cases h0 : faultAt l at0 != 0 with
  | true => rfl
  | false =>
    have hz : faultAt l at0 = 0 := by simpa using h0
    have hk := faultK_chk (faultAt_zero hz)
    have hm : ∀ x, x ∈ confK at0 [] l → x ∈ l := fun x hx => by rcases confK_mem at0 l [] x hx with h | h; cases h; exact h
    have hlen : (confK at0 [] l).length ≤ l.length := by have := confK_len at0 l []; simpa using this
    have ho : ∀ e0 : List G_Pair → Option R, club_Owed_L16 I_club_Owed I_club_Owed.N ((confK at0 [] l).length : Int) 0 m' (confK at0 [] l) [] e0 = e0 (owedL (fun c => (mget_club_contact_bool (keyK c) m').getD false) [] (confK at0 [] l)) := fun e0 =>
      club_Owed_out (confK at0 [] l) (fun c h => hf c (hm c h)) (fun c h => hk c (hm c h)) (by omega) m' (confK at0 [] l) NN 0 [] rfl (show (confK at0 [] l).length < NN by have := NN_ok; omega) (by simp) R e0
    have hq := owedL_len (fun c => (mget_club_contact_bool (keyK c) m').getD false) (confK at0 [] l) []
    simp only [I_club_Owed] at ho
    simp only [cond_false, ho, sortfP_owed (show (owedL (fun c => (mget_club_contact_bool (keyK c) m').getD false) [] (confK at0 [] l)).length ≤ 100000 by simp at hq; omega), owedK]
    rw [owedL_congr (confK at0 [] l) [] fun c _ => by
      show (mget_club_contact_bool (keyK c) m').getD false = sentF at0 (keyK c) false l
      rw [g1, mget_club_contact_bool_nil]; rfl]
theorem Q_OwedBy_1_is {y x : G_Card} (hy : FineK y) (hx : FineK x) (at0 : Int) (R : Type) (k : Bool → Int → G_Card → Option R) : Q_OwedBy_1 y at0 x k = k (retK at0 (keyK x) y) at0 x := by
  simp only [Q_OwedBy_1, Q_OwedBy_1_, I_Q_OwedBy_1, Q_with_is hy hx, retK]
  cases y.f_Kind == 3 <;> cases decide (y.f_At ≤ at0) <;> rfl
theorem idx_owed_loop (l : List G_Card) (hf : ∀ c ∈ l, FineK c) (hl : l.length ≤ 100000) (at0 : Int) (x : G_Card) (hx : FineK x) : ∀ (xs : List G_Card) (n i : Nat), l.drop i = xs → xs.length < n →
    (xs.any (retK at0 (keyK x)) = true → ∃ j : Nat, ∀ (R : Type) (e0 : Int → Int → G_Card → Option R) (e1 : Int → G_Card → Option R), slices_IndexFunc__Card_Q_OwedBy_1_L2 I_slices_IndexFunc__Card_Q_OwedBy_1 n l (l.length : Int) (i : Int) at0 x e0 e1 = e0 (j : Int) at0 x) ∧
    (xs.any (retK at0 (keyK x)) = false → ∀ (R : Type) (e0 : Int → Int → G_Card → Option R) (e1 : Int → G_Card → Option R), slices_IndexFunc__Card_Q_OwedBy_1_L2 I_slices_IndexFunc__Card_Q_OwedBy_1 n l (l.length : Int) (i : Int) at0 x e0 e1 = e1 at0 x)
  | _, 0, _, _, h => by omega
  | [], n + 1, i, h, _ => ⟨(fun hq => by cases hq), (fun _ R e0 e1 => by rw [slices_IndexFunc__Card_Q_OwedBy_1_L2, ge_drop h]; rfl)⟩
  | c :: cs, n + 1, i, h, hn => by
    have h' := drop_cons h
    have ih := idx_owed_loop l hf hl at0 x hx cs n (i + 1) h'.2.2.1 (by simp at hn; omega)
    have hrun : ∀ (R : Type) (e0 : Int → Int → G_Card → Option R) (e1 : Int → G_Card → Option R), slices_IndexFunc__Card_Q_OwedBy_1_L2 I_slices_IndexFunc__Card_Q_OwedBy_1 (n + 1) l (l.length : Int) (i : Int) at0 x e0 e1 =
        bif retK at0 (keyK x) c then e0 (i : Int) at0 x else slices_IndexFunc__Card_Q_OwedBy_1_L2 I_slices_IndexFunc__Card_Q_OwedBy_1 n l (l.length : Int) ((i + 1 : Nat) : Int) at0 x e0 e1 := fun R e0 e1 => by
      rw [slices_IndexFunc__Card_Q_OwedBy_1_L2, lt_drop h]
      simp only [cond_true, get_drop h, I_slices_IndexFunc__Card_Q_OwedBy_1, Q_OwedBy_1_is (hf c (mem_drop h)) hx, w64_succ (show i < 4611686018427387904 by omega)]
    simp only [hrun, List.any_cons]
    cases retK at0 (keyK x) c with
    | true => exact ⟨(fun _ => ⟨i, fun R e0 e1 => rfl⟩), (fun hq => by cases hq)⟩
    | false => simp only [Bool.false_or, cond_false]; exact ih
theorem con_owed {l : List G_Card} (hf : ∀ c ∈ l, FineK c) (hl : l.length ≤ 100000) (at0 : Int) {x : G_Card} (hx : FineK x) (R : Type) (k : Bool → Int → G_Card → Option R) : slices_ContainsFunc__Card_Q_OwedBy_1 l at0 x k = k (l.any (retK at0 (keyK x))) at0 x := by
  have hi := idx_owed_loop l hf hl at0 x hx l NN 0 rfl (by have := NN_ok; omega)
  have hq : ∀ (R : Type) (e0 : Int → Int → G_Card → Option R) (e1 : Int → G_Card → Option R), slices_IndexFunc__Card_Q_OwedBy_1_L2 I_slices_IndexFunc__Card_Q_OwedBy_1 I_slices_IndexFunc__Card_Q_OwedBy_1.N l (l.length : Int) 0 at0 x e0 e1 = slices_IndexFunc__Card_Q_OwedBy_1_L2 I_slices_IndexFunc__Card_Q_OwedBy_1 NN l (l.length : Int) ((0 : Nat) : Int) at0 x e0 e1 := fun R e0 e1 => rfl
  have hc : ∀ (k : Int → Int → G_Card → Option R), slices_IndexFunc__Card_Q_OwedBy_1 l at0 x k = slices_IndexFunc__Card_Q_OwedBy_1_L2 I_slices_IndexFunc__Card_Q_OwedBy_1 NN l (l.length : Int) ((0 : Nat) : Int) at0 x (fun a b c => k a b c) (fun b c => k (-1) b c) := fun k => by
    simp only [slices_IndexFunc__Card_Q_OwedBy_1, slices_IndexFunc__Card_Q_OwedBy_1_, hq]
  simp only [slices_ContainsFunc__Card_Q_OwedBy_1, slices_ContainsFunc__Card_Q_OwedBy_1_, I_slices_ContainsFunc__Card_Q_OwedBy_1, hc]
  cases ha : l.any (retK at0 (keyK x)) with
  | true =>
    obtain ⟨j, hj⟩ := hi.1 ha
    rw [hj, decide_eq_true (show (j : Int) ≥ 0 by omega)]
  | false => rw [hi.2 ha]; rfl
theorem Q_OwedBy_in (l : List G_Card) (hf : ∀ c ∈ l, FineK c) (hl : l.length ≤ 100000) (at0 : Int) (x : G_Card) (hx : FineK x) (p q : Int) (cf : List G_Card) (out : List G_Pair) : ∀ (xs : List G_Card) (n i : Nat) (b : Bool), l.drop i = xs → xs.length < n →
    ∀ (R : Type) (e0 : List G_Card → Bool → Int → Int → Int → List G_Card → List G_Pair → G_Card → Option R), Q_OwedBy_L7 I_Q_OwedBy n l b p q l (l.length : Int) (i : Int) at0 cf out x e0 = e0 l (sentR at0 (keyK x) b xs) p q at0 cf out x
  | _, 0, _, _, _, h, _, _ => by omega
  | [], n + 1, i, b, h, _, R, e0 => by rw [Q_OwedBy_L7, ge_drop h]; rfl
  | c :: cs, n + 1, i, b, h, hn, R, e0 => by
    have h' := drop_cons h
    have ih := fun b => Q_OwedBy_in l hf hl at0 x hx p q cf out cs n (i + 1) b h'.2.2.1 (by simp at hn; omega) R e0
    have hd : (decide (0 ≤ ((i + 1 : Nat) : Int)) && decide (((i + 1 : Nat) : Int) ≤ (l.length : Int))) = true := by simp; omega
    have hdr : l.drop (((i + 1 : Nat) : Int)).toNat = cs := by rw [Int.toNat_natCast]; exact h'.2.2.1
    have hsub : ∀ c ∈ cs, FineK c := fun c hc => hf c (sub_drop h'.2.2.1 c hc)
    rw [Q_OwedBy_L7, lt_drop h]
    simp only [I_Q_OwedBy] at ih
    simp only [cond_true, get_drop h, I_Q_OwedBy, Q_with_is (hf c (mem_drop h)) hx, w64_succ (show i < 4611686018427387904 by omega), hd, hdr, con_owed hsub (show cs.length ≤ 100000 by omega) at0 hx, ih, sentR]
    cases c.f_Kind != 1 <;> cases decide (c.f_At > at0) <;> cases decide (keyK c = keyK x) <;> cases b <;> rfl
theorem Q_OwedBy_out (l : List G_Card) (hf : ∀ c ∈ l, FineK c) (hl : l.length ≤ 100000) (at0 : Int) (d : List G_Card) (hd : ∀ c ∈ d, FineK c) (hk : ∀ c ∈ d, chkK c = 0) (hl2 : d.length ≤ 100000) : ∀ (xs : List G_Card) (n i : Nat) (out : List G_Pair), d.drop i = xs → xs.length < n → out.length ≤ i →
    ∀ (R : Type) (e0 : List G_Pair → Option R), Q_OwedBy_L3 I_Q_OwedBy n l (d.length : Int) (i : Int) at0 d out e0 = e0 (owedL (fun c => sentR at0 (keyK c) false l) out xs)
  | _, 0, _, _, _, h, _, _, _ => by omega
  | [], n + 1, i, out, h, _, _, R, e0 => by rw [Q_OwedBy_L3, ge_drop h]; rfl
  | c :: cs, n + 1, i, out, h, hn, ho, R, e0 => by
    have h' := drop_cons h
    have hc := hd c (mem_drop h)
    have hm := chkK_mode (hk c (mem_drop h))
    have hb := keysL_len _ hc.band
    have hw := modeW_len c.f_Mode
    have ih1 := Q_OwedBy_out l hf hl at0 d hd hk hl2 cs n (i + 1) out h'.2.2.1 (by simp at hn; omega) (by omega) R e0
    have ih2 := Q_OwedBy_out l hf hl at0 d hd hk hl2 cs n (i + 1) (out ++ [pairK c]) h'.2.2.1 (by simp at hn; omega) (by simp; omega) R e0
    have hin : ∀ (e0 : List G_Card → Bool → Int → Int → Int → List G_Card → List G_Pair → G_Card → Option R), Q_OwedBy_L7 I_Q_OwedBy I_Q_OwedBy.N l false (d.length : Int) (i : Int) l (l.length : Int) 0 at0 d out c e0 = e0 l (sentR at0 (keyK c) false l) (d.length : Int) (i : Int) at0 d out c := fun e0 =>
      Q_OwedBy_in l hf hl at0 c hc (d.length : Int) (i : Int) d out l NN 0 false rfl (by have := NN_ok; omega) R e0
    rw [Q_OwedBy_L3, lt_drop h]
    simp only [I_Q_OwedBy] at ih1 ih2 hin
    have hmw : ∀ {R : Type} (k : List (List UInt8) → Option R), Q_plainModes k = k [[], [99, 111, 100, 101], [118, 111, 105, 99, 101], [100, 97, 116, 97]] := fun k => rfl
    simp only [cond_true, inr_drop h, at_drop h, I_Q_OwedBy, hin, Q_BaseOf_is hc.call, hmw, modeW_at hm.1 hm.2, strOk_is (show c.f_Band.length + ([32] : List UInt8).length ≤ 1000 by simp; omega), strOk_is (show (c.f_Band ++ [32]).length + (modeW c.f_Mode).length ≤ 1000 by simp; omega), w64_succ (show i < 4611686018427387904 by omega), room1 out _ 32 (show out.length ≤ 1000000 by omega) (by omega), ih1, owedL]
    rw [show (⟨baseB c.f_Call, (c.f_Band ++ [32]) ++ modeW c.f_Mode⟩ : G_Pair) = pairK c from rfl, ih2]
    cases sentR at0 (keyK c) false l <;> rfl
theorem Q_OwedBy_is {l : List G_Card} (hf : ∀ c ∈ l, FineK c) (hk : ∀ c ∈ l, chkK c = 0) (hl : l.length ≤ 100000) (at0 : Int) (R : Type) (k : List G_Pair → Option R) : Q_OwedBy l at0 k = k (owedK at0 l) := by
  have hm : ∀ x, x ∈ confK at0 [] l → x ∈ l := fun x hx => by rcases confK_mem at0 l [] x hx with h | h; cases h; exact h
  have hlen : (confK at0 [] l).length ≤ l.length := by have := confK_len at0 l []; simpa using this
  have ho : ∀ e0 : List G_Pair → Option R, Q_OwedBy_L3 I_Q_OwedBy I_Q_OwedBy.N l ((confK at0 [] l).length : Int) 0 at0 (confK at0 [] l) [] e0 = e0 (owedL (fun c => sentR at0 (keyK c) false l) [] (confK at0 [] l)) := fun e0 =>
    Q_OwedBy_out l hf hl at0 (confK at0 [] l) (fun c h => hf c (hm c h)) (fun c h => hk c (hm c h)) (by omega) (confK at0 [] l) NN 0 [] rfl (by have := NN_ok; omega) (by simp) R e0
  have hq := owedL_len (fun c => sentR at0 (keyK c) false l) (confK at0 [] l) []
  simp only [I_Q_OwedBy] at ho
  simp only [Q_OwedBy, Q_OwedBy_, I_Q_OwedBy, Q_ConfirmedBy_is hf hl, ho, sortfP_by (show (owedL (fun c => sentR at0 (keyK c) false l) [] (confK at0 [] l)).length ≤ 100000 by simp at hq; omega), owedK]
  rw [owedL_congr (confK at0 [] l) [] fun c _ => by
    show sentR at0 (keyK c) false l = sentF at0 (keyK c) false l
    rw [sentF_false]]
theorem cmp_ranked : Ords (fun x y : G_Place => orL [cmpI y.f_Points x.f_Points, Lib.compareBytes x.f_Key y.f_Key]) :=
  .lex (⟨fun x y => ords_cmpI.anti _ _, fun x y z h1 h2 => ords_cmpI.trans _ _ _ h2 h1⟩ : Ords fun x y : G_Place => cmpI y.f_Points x.f_Points) (.lex (ords_cb.on fun c : G_Place => c.f_Key) .nil)
theorem club_ranked_1_is (x y : G_Place) (R : Type) (k : Int → Option R) : club_ranked_1 x y k = k (orL [cmpI y.f_Points x.f_Points, Lib.compareBytes x.f_Key y.f_Key]) := by
  simp only [club_ranked_1, club_ranked_1_, I_club_ranked_1, cmp_Compare__int_is, strings_Compare_is]
  rw [cmp_Or__int_is _ (by simp)]
theorem sortf_place (x : G_Place) (R : Type) (k : List G_Place → Option R) : slices_SortFunc__Place_club_ranked_1 [x] k = k [x] := by
  have h : slices_SortFunc__Place_club_ranked_1 [x] k = k (sortI (fun x y : G_Place => orL [cmpI y.f_Points x.f_Points, Lib.compareBytes x.f_Key y.f_Key]) [x]) :=
    X_sortf_one cmp_ranked (by simp) (fun a ha b hb _ => by simp at ha hb; rw [ha, hb]) (fun x _ y _ => club_ranked_1_is x y) k
  rw [h]; rfl
theorem entrants_ok (R : Type) (k : Int → Option R) : club_CheckEntrants [(⟨[107, 49, 97, 98], [99], 5, []⟩ : G_Entrant)] k = k 0 := by
  obtain ⟨m, h, rfl⟩ := fuel_is ‹Fuel›
  kernel_rfl
theorem key_ok (R : Type) (k : Bool → Option R) : kit_IsKey [99] k = k true := by
  obtain ⟨m, h, rfl⟩ := fuel_is ‹Fuel›
  kernel_rfl
theorem ranked_one (x : G_Place) (R : Type) (k : List G_Place → Option R) : club_ranked [x] k = k [⟨1, x.f_Points, x.f_Key⟩] := by
  obtain ⟨m, e, hm⟩ := NN_succ
  obtain ⟨m, rfl⟩ : ∃ q, m = q + 1 := ⟨m - 1, by omega⟩
  simp only [club_ranked, club_ranked_]
  rw [show I_club_ranked.N = m + 1 + 1 from e]
  simp only [I_club_ranked, sortf_place]
  rfl
theorem table_one (R : Type) (k : List G_Place → Int → Option R) : club_Table [(⟨[107, 49, 97, 98], [99], 5, []⟩ : G_Entrant)] [99] k = k [⟨1, 5, [107, 49, 97, 98]⟩] 0 := by
  have h : ∀ e0 : List G_Place → Option R, club_Table_L8 I_club_Table I_club_Table.N [99] [(⟨[107, 49, 97, 98], [99], 5, []⟩ : G_Entrant)] (([(⟨[107, 49, 97, 98], [99], 5, []⟩ : G_Entrant)] : List G_Entrant).length : Int) 0 [] e0 = e0 [⟨0, 5, [107, 49, 97, 98]⟩] := fun e0 => by
    obtain ⟨m, e, hm⟩ := NN_succ
    obtain ⟨m, rfl⟩ : ∃ q, m = q + 1 := ⟨m - 1, by omega⟩
    rw [show I_club_Table.N = m + 1 + 1 from e]
    rfl
  simp only [I_club_Table] at h
  simp only [club_Table, club_Table_, I_club_Table, entrants_ok, key_ok, h, ranked_one]
  rfl
theorem law_joinedClub_is (R : Type) (k : Bool → Option R) : law_joinedClub k = k true := by
  simp only [law_joinedClub, law_joinedClub_, I_law_joinedClub, table_one]
  rfl
theorem equalP_is {l : List G_Pair} (hl : l.length ≤ 1000000) (R : Type) (k : Bool → Option R) : slices_Equal__Pair l l k = k true := by
  rw [li_slices_Equal__Pair]; exact sEqual_same (by have := NN_ok; omega) (by have := NN_ok; omega) (fun x => by rw [(eq_G_Pair_is x x).2 rfl]; rfl) k
theorem equalPn_is (R : Type) (k : Bool → Option R) : slices_Equal__Pair_n1 [] k = k true := by
  rw [li_slices_Equal__Pair_n1]; exact sEqualN_nil (by have := NN_ok; omega) k
theorem owedK_len (at0 : Int) (l : List G_Card) : (owedK at0 l).length ≤ l.length := by
  unfold owedK
  rw [sortI_length]
  have h1 := owedL_len (fun c => sentF at0 (keyK c) false l) (confK at0 [] l) []
  have h2 := confK_len at0 l []
  simp at h1 h2
  omega
theorem law_CardsConfirm_true (l : List Int) (R : Type) (k : Bool → Option R) : law_CardsConfirm l k = k true := by
  obtain ⟨n, s1, n1, n2, z1, e1⟩ := Stream_Range_gives (sOk0 l) 0 14 (by omega) (by omega) (by omega) (by omega) (by omega)
  obtain ⟨n, rfl⟩ : ∃ m : Nat, n = (m : Int) := ⟨n.toNat, by omega⟩
  obtain ⟨a, s2, z2, la, ha, e2⟩ := Stream_Cards_gives z1 (by omega) n (by omega)
  obtain ⟨q, s3, q1, q2, z3, e3⟩ := Stream_Range_gives z2 0 6 (by omega) (by omega) (by omega) (by omega) (by omega)
  obtain ⟨q, rfl⟩ : ∃ m : Nat, q = (m : Int) := ⟨q.toNat, by omega⟩
  obtain ⟨b, s4, z4, lb, hb, e4⟩ := Stream_Cards_gives z3 (by omega) q (by omega)
  obtain ⟨at0, s5, hat, z5, e5⟩ := Stream_Pick_gives z4 [0, 10, 30, 60, 200, (-1)] (by omega) (by simp) (by simp)
  have hla : a.length ≤ 100000 := by omega
  have hlb : b.length ≤ 100000 := by omega
  have lm : (mergedK a b).1.length ≤ 1000000 := by
    have := mergeK_len a b
    unfold mergedK
    cases decide (((mergeK a b).length : Int) > 3000) <;> simp only [cond_true, cond_false, List.length_nil] <;> omega
  have lc : (confK at0 [] a).length ≤ 1000000 := by have := confK_len at0 a []; simp at this; omega
  have lo : (owedK at0 a).length ≤ 1000000 := by have := owedK_len at0 a; omega
  simp only [law_CardsConfirm, law_CardsConfirm_, I_law_CardsConfirm, e1, e2, e3, e4, e5, club_MergeCards_is ha hb (show a.length ≤ 1000 by omega) (show b.length ≤ 1000 by omega), club_Confirmed_is ha hla, club_Owed_is ha hla, Q_CardsFault_is ha hla, Q_CardsFault_is hb hlb,
    law_errs_is [faultK a, faultK b] (by simp), Q_MomentFault_is, law_errs_is [faultK a, bif momB at0 then 0 else 1] (by simp), Q_CardsOf_is ha hb (show a.length ≤ 1000 by omega) (show b.length ≤ 1000 by omega), Q_ConfirmedBy_is ha hla, club_CheckCards_is ha hla, law_joinedClub_is]
  rw [show orL [faultK a, bif momB at0 then 0 else 1] = faultAt a at0 from rfl]
  cases h1 : orL [faultK a, faultK b] != 0 with
  | true =>
    have h1' : (orL [faultK a, faultK b] == 0) = false := by simpa using h1
    cases h2 : faultAt a at0 != 0 with
    | true =>
      have h2' : (faultAt a at0 == 0) = false := by simpa using h2
      simp only [cond_true, cond_false, h1', h2', beq_self_eq_true, equalKn_is, equalPn_is]
    | false =>
      have h2' : faultAt a at0 = 0 := by simpa using h2
      simp only [cond_true, cond_false, h1', h2', beq_self_eq_true, equalKn_is, equalK_is lc, equalP_is lo, Q_OwedBy_is ha (faultK_chk (faultAt_zero h2')) hla]
  | false =>
    have h1' : orL [faultK a, faultK b] = 0 := by simpa using h1
    cases h2 : faultAt a at0 != 0 with
    | true =>
      have h2' : (faultAt a at0 == 0) = false := by simpa using h2
      simp only [cond_true, cond_false, h1', h2', beq_self_eq_true, equalKn_is, equalPn_is, equalK_is lm]
    | false =>
      have h2' : faultAt a at0 = 0 := by simpa using h2
      simp only [cond_true, cond_false, h1', h2', beq_self_eq_true, equalK_is lm, equalK_is lc, equalP_is lo, Q_OwedBy_is ha (faultK_chk (faultAt_zero h2')) hla]
end Go.Am
