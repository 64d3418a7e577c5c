/- The plain law, in Lean alone: D3. No condition: lemmas for the claim. -/
import Derived.Test.YtonhhbcacemaiaaGreatDoorPlD1
import Derived.Test.YtonhhbcacemaiaaGreatDoorPlS1
set_option linter.unusedVariables false
set_option linter.unusedSectionVars false
set_option linter.unusedSimpArgs false
set_option maxRecDepth 100000
namespace Go.Am
open Go Go.Proofs
variable [Fuel]
def cmpP (x y : G_Pair) : Int := orL [Lib.compareBytes x.f_Name y.f_Name, Lib.compareBytes x.f_Value y.f_Value]
theorem ords_cmpP : Ords cmpP := .lex (ords_cb.on fun c : G_Pair => c.f_Name) (.lex (ords_cb.on fun c : G_Pair => c.f_Value) .nil)
theorem cmpP_zero {x y : G_Pair} (h : cmpP x y = 0) : x = y := by
 unfold cmpP at h
 rw [orL_zero] at h
 simp only [List.mem_cons, List.not_mem_nil, or_false, forall_eq_or_imp, forall_eq, cb_eq_zero] at h
 obtain ⟨h1, h2⟩ := h
 cases x; cases y
 simp only at h1 h2
 subst h1 h2
 rfl
theorem club_Owed_1_is (x y : G_Pair) (R : Type) (k : Int → Option R) : club_Owed_1 x y k = k (cmpP x y) := by
 simp only [club_Owed_1, club_Owed_1_, I_club_Owed_1, cmpP, strings_Compare_is]
 rw [cmp_Or__int_is _ (by simp)]
theorem sortfP_owed {l : List G_Pair} (hl : l.length ≤ 100000) (R : Type) (k : List G_Pair → Option R) : slices_SortFunc__Pair_club_Owed_1 l k = k (sortI cmpP l) :=
 X_sortf_one ords_cmpP (by omega) (fun x _ y _ h => cmpP_zero h) (fun x _ y _ => club_Owed_1_is x y) k
noncomputable def sentF (at0 : Int) (w : G_club_contact) : Bool → List G_Card → Bool
 | b, [] => b
 | b, c :: cs => bif decide (c.f_At > at0) then sentF at0 w b cs else bif c.f_Kind == 1 then sentF at0 w (bif decide (keyK c = w) then true else b) cs else bif c.f_Kind == 3 then sentF at0 w (bif decide (keyK c = w) then false else b) cs else sentF at0 w b cs
def modeW (m : Int) : List UInt8 := (([[], [99, 111, 100, 101], [118, 111, 105, 99, 101], [100, 97, 116, 97]] : List (List UInt8))[m.toNat]?).getD []
theorem modeW_at {m : Int} (h1 : 1 ≤ m) (h2 : m ≤ 3) {R : Type} (k : List UInt8 → Option R) :
  inr ([[], [99, 111, 100, 101], [118, 111, 105, 99, 101], [100, 97, 116, 97]] : List (List UInt8)) m (at_ ([[], [99, 111, 100, 101], [118, 111, 105, 99, 101], [100, 97, 116, 97]] : List (List UInt8)) m k) = k (modeW m) := by
 rcases (by omega : m = 1 ∨ m = 2 ∨ m = 3) with rfl | rfl | rfl <;> rfl
theorem modeW_len (m : Int) : (modeW m).length ≤ 5 := by
 unfold modeW
 rcases m.toNat with _ | _ | _ | _ | n <;> simp
noncomputable def pairK (c : G_Card) : G_Pair := ⟨baseB c.f_Call, (c.f_Band ++ [32]) ++ modeW c.f_Mode⟩
noncomputable def owedL (f : G_Card → Bool) : List G_Pair → List G_Card → List G_Pair
 | out, [] => out
 | out, c :: cs => bif !f c then owedL f (out ++ [pairK c]) cs else owedL f out cs
theorem owedL_len (f : G_Card → Bool) : ∀ (l : List G_Card) (out : List G_Pair), (owedL f out l).length ≤ out.length + l.length
 | [], out => by simp [owedL]
 | c :: cs, out => by
  unfold owedL
  have h1 := owedL_len f cs (out ++ [pairK c])
  have h2 := owedL_len f cs out
  simp at h1
  cases f c <;> simp <;> omega
theorem keysL_len : ∀ s ∈ keysL, s.length ≤ 3 := by decide
theorem strOk_is {a b : List UInt8} (h : a.length + b.length ≤ 1000) : strOk a b = true := by
 unfold strOk
 exact decide_eq_true (by omega)
theorem club_Owed_loop (d : List G_Card) (hf : ∀ c ∈ d, FineK c) (hl : d.length ≤ 100000) (at0 : Int) : ∀ (xs : List G_Card) (n i : Nat) (m : List (G_club_contact × Bool)), d.drop i = xs → xs.length < n →
  ∃ m', (∀ w, (mget_club_contact_bool w m').getD false = sentF at0 w ((mget_club_contact_bool w m).getD false) xs) ∧ ∀ (R : Type) (e0 : List G_Card → Int → List (G_club_contact × Bool) → Option R), club_Owed_L6 I_club_Owed n d at0 d (d.length : Int) (i : Int) m e0 = e0 d at0 m'
 | _, 0, _, _, _, h => by omega
 | [], n + 1, i, m, h, _ => ⟨m, fun w => by rw [sentF], fun R e0 => by rw [club_Owed_L6, ge_drop h]; rfl⟩
 | c :: cs, n + 1, i, m, h, hn => by
  have h' := drop_cons h
  have set_is : ∀ (v : Bool) w, (mget_club_contact_bool w (mset_club_contact_bool (keyK c) v m)).getD false = bif decide (keyK c = w) then v else (mget_club_contact_bool w m).getD false := fun v w => by
   rw [lm_get_club_contact_bool, lm_set_club_contact_bool, aget_aset keq_club_contact_is]
   cases hq : keq_club_contact w (keyK c) with
   | true => have := (keq_club_contact_is w (keyK c)).1 hq; simp [this]
   | false =>
    have : keyK c ≠ w := fun e => by rw [e, (keq_club_contact_is w w).2 rfl] at hq; cases hq
    simp [this]
  have step : ∀ m2, ∃ m', (∀ w, (mget_club_contact_bool w m').getD false = sentF at0 w ((mget_club_contact_bool w m2).getD false) cs) ∧ ∀ (R : Type) (e0 : List G_Card → Int → List (G_club_contact × Bool) → Option R), club_Owed_L6 I_club_Owed n d at0 d (d.length : Int) ((i + 1 : Nat) : Int) m2 e0 = e0 d at0 m' :=
   fun m2 => club_Owed_loop d hf hl at0 cs n (i + 1) m2 h'.2.2.1 (by simp at hn; omega)
  have hrun : ∀ (R : Type) (e0 : List G_Card → Int → List (G_club_contact × Bool) → Option R), club_Owed_L6 I_club_Owed (n + 1) d at0 d (d.length : Int) (i : Int) m e0 =
    bif decide (c.f_At > at0) then club_Owed_L6 I_club_Owed n d at0 d (d.length : Int) ((i + 1 : Nat) : Int) m e0 else bif c.f_Kind == 1 then club_Owed_L6 I_club_Owed n d at0 d (d.length : Int) ((i + 1 : Nat) : Int) (mset_club_contact_bool (keyK c) true m) e0 else bif c.f_Kind == 3 then club_Owed_L6 I_club_Owed n d at0 d (d.length : Int) ((i + 1 : Nat) : Int) (mset_club_contact_bool (keyK c) false m) e0 else club_Owed_L6 I_club_Owed n d at0 d (d.length : Int) ((i + 1 : Nat) : Int) m e0 := fun R e0 => by
   rw [club_Owed_L6, lt_drop h]
   simp only [cond_true, get_drop h, I_club_Owed, club_contactOf_is (hf c (mem_drop h)), w64_succ (show i < 4611686018427387904 by omega)]
  have hs : ∀ w b, sentF at0 w b (c :: cs) = bif decide (c.f_At > at0) then sentF at0 w b cs else bif c.f_Kind == 1 then sentF at0 w (bif decide (keyK c = w) then true else b) cs else bif c.f_Kind == 3 then sentF at0 w (bif decide (keyK c = w) then false else b) cs else sentF at0 w b cs := fun w b => by rw [sentF]
  simp only [hrun, hs]
  cases decide (c.f_At > at0) with
  | true => simp only [cond_true]; exact step m
  | false =>
   simp only [cond_false]
   cases c.f_Kind == 1 with
   | true =>
    simp only [cond_true]
    obtain ⟨m', g1, g2⟩ := step (mset_club_contact_bool (keyK c) true m)
    exact ⟨m', fun w => by rw [g1, set_is], g2⟩
   | false =>
    simp only [cond_false]
    cases c.f_Kind == 3 with
    | true =>
     simp only [cond_true]
     obtain ⟨m', g1, g2⟩ := step (mset_club_contact_bool (keyK c) false m)
     exact ⟨m', fun w => by rw [g1, set_is], g2⟩
    | false => simp only [cond_false]; exact step m
theorem club_Owed_out (d : List G_Card) (hf : ∀ c ∈ d, FineK c) (hk : ∀ c ∈ d, chkK c = 0) (hl : d.length ≤ 100000) (m : List (G_club_contact × Bool)) : ∀ (xs : List G_Card) (n i : Nat) (out : List G_Pair), d.drop i = xs → xs.length < n → out.length ≤ i →
  ∀ (R : Type) (e0 : List G_Pair → Option R), club_Owed_L16 I_club_Owed n (d.length : Int) (i : Int) m d out e0 = e0 (owedL (fun c => (mget_club_contact_bool (keyK c) m).getD false) out xs)
 | _, 0, _, _, _, h, _, _, _ => by omega
 | [], n + 1, i, out, h, _, _, R, e0 => by rw [club_Owed_L16, ge_drop h]; rfl
 | c :: cs, n + 1, i, out, h, hn, ho, R, e0 => by
  have h' := drop_cons h
  have hc := hf c (mem_drop h)
  have hm := chkK_mode (hk c (mem_drop h))
  have hb := keysL_len _ hc.band
  have hw := modeW_len c.f_Mode
  have ih1 := club_Owed_out d hf hk hl m cs n (i + 1) out h'.2.2.1 (by simp at hn; omega) (by omega) R e0
  have ih2 := club_Owed_out d hf hk hl m cs n (i + 1) (out ++ [pairK c]) h'.2.2.1 (by simp at hn; omega) (by simp; omega) R e0
  rw [club_Owed_L16, lt_drop h]
  simp only [I_club_Owed] at ih1 ih2
  have hmw : ∀ {R : Type} (k : List (List UInt8) → Option R), kit_ModeWords k = k [[], [99, 111, 100, 101], [118, 111, 105, 99, 101], [100, 97, 116, 97]] := fun k => rfl
  have e1 : (keyK c).f_band = c.f_Band := rfl
  have e2 : (keyK c).f_mode = c.f_Mode := rfl
  have e3 : (keyK c).f_base = baseB c.f_Call := rfl
  simp only [cond_true, inr_drop h, at_drop h, I_club_Owed, club_contactOf_is hc, hmw, e1, e2, e3, modeW_at hm.1 hm.2, strOk_is (show c.f_Band.length + ([32] : List UInt8).length ≤ 1000 by simp; omega), strOk_is (show (c.f_Band ++ [32]).length + (modeW c.f_Mode).length ≤ 1000 by simp; omega), w64_succ (show i < 4611686018427387904 by omega), room1 out _ 32 (show out.length ≤ 1000000 by omega) (by omega), ih1, owedL]
  rw [show (⟨baseB c.f_Call, (c.f_Band ++ [32]) ++ modeW c.f_Mode⟩ : G_Pair) = pairK c from rfl, ih2]
  cases (mget_club_contact_bool (keyK c) m).getD false <;> rfl
noncomputable def owedK (at0 : Int) (l : List G_Card) : List G_Pair := sortI cmpP (owedL (fun c => sentF at0 (keyK c) false l) [] (confK at0 [] l))
theorem owedL_congr {f g : G_Card → Bool} : ∀ (l : List G_Card) (out : List G_Pair), (∀ c ∈ l, f c = g c) → owedL f out l = owedL g out l
 | [], out, _ => rfl
 | c :: cs, out, h => by
  unfold owedL
  rw [h c (by simp), owedL_congr cs _ fun x hx => h x (by simp [hx]), owedL_congr cs out fun x hx => h x (by simp [hx])]
theorem club_Owed_is {l : List G_Card} (hf : ∀ c ∈ l, FineK c) (hl : l.length ≤ 100000) (at0 : Int) (R : Type) (k : List G_Pair → Int → Option R) : club_Owed l at0 k = bif faultAt l at0 != 0 then k [] (faultAt l at0) else k (owedK at0 l) 0 := by
 obtain ⟨m', g1, g2⟩ := club_Owed_loop l hf hl at0 l NN 0 [] rfl (show l.length < NN by have := NN_ok; omega)
 have g2' : ∀ (R : Type) (e0 : List G_Card → Int → List (G_club_contact × Bool) → Option R), club_Owed_L6 I_club_Owed I_club_Owed.N l at0 l (l.length : Int) 0 [] e0 = e0 l at0 m' := g2
 simp only [I_club_Owed] at g2'
 simp only [club_Owed, club_Owed_, I_club_Owed, club_cardsFault_is hf hl, g2', club_confirmed_is hf hl]
 cases h0 : faultAt l at0 != 0 with
 | true => rfl
 | false =>
  have hz : faultAt l at0 = 0 := by simpa using h0
  have hk := faultK_chk (faultAt_zero hz)
  have hm : ∀ x, x ∈ confK at0 [] l → x ∈ l := fun x hx => by rcases confK_mem at0 l [] x hx with h | h; cases h; exact h
  have hlen : (confK at0 [] l).length ≤ l.length := by have := confK_len at0 l []; simpa using this
  have ho : ∀ e0 : List G_Pair → Option R, club_Owed_L16 I_club_Owed I_club_Owed.N ((confK at0 [] l).length : Int) 0 m' (confK at0 [] l) [] e0 = e0 (owedL (fun c => (mget_club_contact_bool (keyK c) m').getD false) [] (confK at0 [] l)) := fun e0 =>
   club_Owed_out (confK at0 [] l) (fun c h => hf c (hm c h)) (fun c h => hk c (hm c h)) (by omega) m' (confK at0 [] l) NN 0 [] rfl (show (confK at0 [] l).length < NN by have := NN_ok; omega) (by simp) R e0
  have hq := owedL_len (fun c => (mget_club_contact_bool (keyK c) m').getD false) (confK at0 [] l) []
  simp only [I_club_Owed] at ho
  simp only [cond_false, ho, sortfP_owed (show (owedL (fun c => (mget_club_contact_bool (keyK c) m').getD false) [] (confK at0 [] l)).length ≤ 100000 by simp at hq; omega), owedK]
  rw [owedL_congr (confK at0 [] l) [] fun c _ => by
   show (mget_club_contact_bool (keyK c) m').getD false = sentF at0 (keyK c) false l
   rw [g1, mget_club_contact_bool_nil]; rfl]
end Go.Am
