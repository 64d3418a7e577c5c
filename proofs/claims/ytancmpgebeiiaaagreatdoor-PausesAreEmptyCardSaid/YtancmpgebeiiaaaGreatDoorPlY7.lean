/- The plain law, in Lean alone: Y7. No condition: lemmas for the claim. -/
import Derived.Test.YtancmpgebeiiaaaGreatDoorPlY6
import Derived.Test.YtancmpgebeiiaaaGreatDoorPlR3
open Go Go.Proofs
set_option maxRecDepth 100000
set_option linter.unusedSectionVars false
set_option linter.unusedVariables false
set_option linter.unusedSimpArgs false
namespace Go.Am
variable [Fuel]
theorem kit_IsWindow_gives {w : G_Window} (h0 : 0 ≤ w.f_From) (h1 : w.f_From ≤ w.f_To) (h2 : w.f_To ≤ 345686400000) (R : Type) (k : Bool → Option R) : kit_IsWindow w k = k true := by
 have e : inB w.f_From 0 w.f_To = true := inB_is.2 ⟨h0, h1⟩
 simp only [kit_IsWindow, kit_IsWindow_, I_kit_IsWindow, kit_Outside_is, e, Bool.not_true, Bool.not_false, cond_true, decide_eq_true h2]
def putP (t fr least : Int) (rows : List G_Window) : List G_Window := bif decide (t - fr ≥ least) then rows ++ [⟨fr, t⟩] else rows
theorem Pauses_put {t fr least : Int} {rows : List G_Window} (h : w64 (t - fr) = t - fr) (hl : rows.length ≤ 1000000) (R : Type) (k : Int → Int → List G_Window → Option R) : log_Pauses_1_ba3 t fr least rows k = k fr least (putP t fr least rows) := by
 simp only [log_Pauses_1_ba3, log_Pauses_1_ba3_, h, room1 rows _ 16 hl (by omega), putP]
 cases decide (t - fr ≥ least) <;> rfl
theorem putP_len (t fr least : Int) (rows : List G_Window) : (putP t fr least rows).length ≤ rows.length + 1 := by
 unfold putP
 cases decide (t - fr ≥ least) <;> simp
theorem putP_mem {t fr least : Int} {rows : List G_Window} {y : G_Window} (h : y ∈ putP t fr least rows) : y ∈ rows ∨ y = ⟨fr, t⟩ := by
 unfold putP at h
 cases hd : decide (t - fr ≥ least) <;> rw [hd] at h
 ·exact .inl h
 ·rcases List.mem_append.1 h with h | h
  ·exact .inl h
  ·exact .inr (by simpa using h)
def Emp (l : List G_Contact) (y : G_Window) : Prop := ∀ c ∈ l, y.f_From ≤ c.f_At → c.f_At < y.f_To → False
theorem Pauses_L10 (l : List G_Contact) (hl : l.length ≤ 1000) (w : G_Window) (least : Int) (hw1 : 0 ≤ w.f_From) (hw2 : w.f_From ≤ w.f_To) (hw3 : w.f_To ≤ 345686400000) (hup : l.Pairwise fun a b => a.f_At ≤ b.f_At) :
  ∀ (xs pre : List G_Contact) (n i : Nat) (fr : Int) (rows : List G_Window), l.drop i = xs → l = pre ++ xs → xs.length < n → rows.length + xs.length ≤ 1000 → w.f_From ≤ fr → fr ≤ 345686400000 → Emp pre ⟨fr, w.f_To⟩ → (∀ y ∈ rows, Emp l y) →
  ∃ (fr' : Int) (rows' : List G_Window), rows'.length ≤ 1000 ∧ 0 ≤ fr' ∧ fr' ≤ 345686400000 ∧ Emp l ⟨fr', w.f_To⟩ ∧ (∀ y ∈ rows', Emp l y) ∧
   ∀ (R : Type) (e0 : G_Window → Int → Int → List G_Window → Option R), log_Pauses_L10 I_log_Pauses n l (l.length : Int) (i : Int) w least fr rows e0 = e0 w least fr' rows'
 | _, _, 0, _, _, _, _, _, h, _, _, _, _, _ => by omega
 | [], pre, n + 1, i, fr, rows, hd, hp, _, hr, h1, h2, h3, h4 => ⟨fr, rows, by simpa using hr, by omega, h2, by rw [hp, List.append_nil]; exact h3, h4, fun R e0 => by rw [log_Pauses_L10, ge_drop hd]; rfl⟩
 | c :: cs, pre, n + 1, i, fr, rows, hd, hp, hn, hr, h1, h2, h3, h4 => by
  have h' := drop_cons hd
  simp at hn hr
  have hk : ∀ {R : Type} (k : Bool → Option R), I_log_Pauses.kit_Has w c.f_At k = k (decide (w.f_From ≤ c.f_At) && decide (c.f_At < w.f_To)) := fun {R} k => kit_Has_is w c.f_At R k
  by_cases hh : w.f_From ≤ c.f_At ∧ c.f_At < w.f_To
  ·have hup2 : ∀ d ∈ cs, c.f_At ≤ d.f_At := fun d hd2 => by
    rw [hp] at hup
    exact (List.pairwise_cons.1 (List.pairwise_append.1 hup).2.1).1 d hd2
   have hup1 : ∀ d ∈ pre, d.f_At ≤ c.f_At := fun d hd2 => by
    rw [hp] at hup
    exact (List.pairwise_append.1 hup).2.2 d hd2 c (by simp)
   have hgood : ∀ y ∈ putP c.f_At fr least rows, Emp l y := fun y hy => by
    rcases putP_mem hy with hy | rfl
    ·exact h4 y hy
    ·intro d hd2 a b
     simp only at a b
     rw [hp] at hd2
     rcases List.mem_append.1 hd2 with hd2 | hd2
     ·exact h3 d hd2 a (by simp only; omega)
     ·rcases List.mem_cons.1 hd2 with rfl | hd2
      ·omega
      ·have := hup2 d hd2; omega
   obtain ⟨fr', rows', g1, g2, g3, g4, g5, g6⟩ := Pauses_L10 l hl w least hw1 hw2 hw3 hup cs (pre ++ [c]) n (i + 1) (c.f_At + 1) (putP c.f_At fr least rows) h'.2.2.1 (by rw [hp]; simp) (by omega) (by have := putP_len c.f_At fr least rows; omega) (by omega) (by omega) (fun d hd2 a b => by
    simp only at a b
    rcases List.mem_append.1 hd2 with hd2 | hd2
    ·have := hup1 d hd2; omega
    ·simp at hd2; rw [hd2] at a; omega) hgood
   refine ⟨fr', rows', g1, g2, g3, g4, g5, fun R e0 => ?_⟩
   have hput : ∀ (k : Int → Int → List G_Window → Option R), I_log_Pauses.log_Pauses_1_ba3 c.f_At fr least rows k = k fr least (putP c.f_At fr least rows) := fun k => Pauses_put (w64_eq (by omega) (by omega)) (by have := h'.2.1; omega) R k
   rw [log_Pauses_L10, lt_drop hd]
   simp only [cond_true, get_drop hd, hk, decide_eq_true hh.1, decide_eq_true hh.2, Bool.and_true, hput, w64_succ (show i < 4611686018427387904 by have := h'.2.1; omega), w64_eq (x := c.f_At + 1) (by omega) (by omega)]
   exact g6 R e0
  ·obtain ⟨fr', rows', g1, g2, g3, g4, g5, g6⟩ := Pauses_L10 l hl w least hw1 hw2 hw3 hup cs (pre ++ [c]) n (i + 1) fr rows h'.2.2.1 (by rw [hp]; simp) (by omega) (by omega) h1 h2 (fun d hd2 a b => by
    simp only at a b
    rcases List.mem_append.1 hd2 with hd2 | hd2
    ·exact h3 d hd2 a b
    ·simp at hd2; rw [hd2] at a b; omega) h4
   refine ⟨fr', rows', g1, g2, g3, g4, g5, fun R e0 => ?_⟩
   have hno : (decide (w.f_From ≤ c.f_At) && decide (c.f_At < w.f_To)) = false := by
    by_cases q : w.f_From ≤ c.f_At
    ·rw [decide_eq_false (show ¬ c.f_At < w.f_To by omega), Bool.and_false]
    ·rw [decide_eq_false q, Bool.false_and]
   rw [log_Pauses_L10, lt_drop hd]
   simp only [cond_true, get_drop hd, hk, hno, cond_false, w64_succ (show i < 4611686018427387904 by have := h'.2.1; omega)]
   exact g6 R e0
theorem cmpC_gt {a b : G_Contact} (h : b.f_At < a.f_At) : ¬ cmpC a b < 0 := by
 have e : cmpI a.f_At b.f_At = 1 := by unfold cmpI; rw [decide_eq_false (by omega), decide_eq_true (by omega)]; rfl
 unfold cmpC
 rw [e]
 show ¬ ((1 : Int) < 0)
 omega
theorem log_Pauses_gives {l : List G_Contact} (hf : ∀ c ∈ l, Fine c) (h0 : faultL l = 0) (hl : l.length ≤ 999) {w : G_Window} {least : Int} (hw1 : 0 ≤ w.f_From) (hw2 : w.f_From ≤ w.f_To) (hw3 : w.f_To ≤ 345686400000) (hm1 : 1 ≤ least) (hm2 : least ≤ 86400000) :
  ∃ rows : List G_Window, rows.length ≤ 1001 ∧ (∀ y ∈ rows, Emp l y) ∧ ∀ (R : Type) (k : List G_Window → Int → Option R), log_Pauses l w least k = k rows 0 := by
 obtain ⟨_, hup⟩ := faultL_parts h0 (show l.length ≤ 1000 by omega)
 have hup' : l.Pairwise fun a b => a.f_At ≤ b.f_At := hup.imp fun {a b} h => by
  rcases Int.lt_or_le b.f_At a.f_At with hh | hh
  ·exact absurd h (cmpC_gt hh)
  ·exact hh
 obtain ⟨fr, rows, g1, g2, g3, g4, g5, g6⟩ := Pauses_L10 l (by omega) w least hw1 hw2 hw3 hup' l [] NN 0 w.f_From [] rfl rfl (by have := NN_ok; omega) (by simp; omega) (Int.le_refl _) (by omega) (fun c h => by cases h) (fun y h => by cases h)
 refine ⟨putP w.f_To fr least rows, by have := putP_len w.f_To fr least rows; omega, fun y hy => ?_, fun R k => ?_⟩
 ·rcases putP_mem hy with hy | rfl
  ·exact g5 y hy
  ·exact g4
 ·have a1 : ∀ k : Int → Option R, I_log_Pauses.log_CheckLog l k = k 0 := fun k => by
   have := log_CheckLog_is hf (show l.length ≤ 100000 by omega) R k
   rw [h0] at this
   exact this
  have a2 : ∀ k : Bool → Option R, I_log_Pauses.kit_IsWindow w k = k true := fun k => kit_IsWindow_gives hw1 hw2 hw3 R k
  have a3 : ∀ k : Bool → Option R, I_log_Pauses.kit_Outside least 1 86400000 k = k false := fun k => by
   have := kit_Outside_is least 1 86400000 R k
   rw [inB_is.2 ⟨hm1, hm2⟩] at this
   exact this
  have a4 : ∀ e0 : G_Window → Int → Int → List G_Window → Option R, log_Pauses_L10 I_log_Pauses I_log_Pauses.N l (l.length : Int) 0 w least w.f_From [] e0 = e0 w least fr rows := fun e0 => g6 R e0
  have a5 : ∀ k : Int → Int → List G_Window → Option R, I_log_Pauses.log_Pauses_1_ba3 w.f_To fr least rows k = k fr least (putP w.f_To fr least rows) := fun k => Pauses_put (w64_eq (by omega) (by omega)) (by omega) R k
  simp only [log_Pauses, log_Pauses_, a1, bne_self_eq_false, cond_false, a2, Bool.not_true, a3, a4, a5]
def sumI : List Int → Int
 | [] => 0
 | x :: xs => x + sumI xs
theorem sumI_set : ∀ (l : List Int) (i : Nat) (x : Int), l[i]? = some x → sumI (l.set i (x + 1)) = sumI l + 1
 | [], i, x, h => by simp at h
 | y :: ys, 0, x, h => by
  have : y = x := by simpa using h
  subst this
  show (y + 1) + sumI ys = (y + sumI ys) + 1
  omega
 | y :: ys, i + 1, x, h => by
  have ih := sumI_set ys i x (by simpa using h)
  show y + sumI (ys.set i (x + 1)) = (y + sumI ys) + 1
  omega
theorem sumI_mem : ∀ (l : List Int), (∀ x ∈ l, 0 ≤ x) → 0 ≤ sumI l ∧ ∀ x ∈ l, x ≤ sumI l
 | [], _ => ⟨Int.le_refl _, fun x h => by cases h⟩
 | y :: ys, h => by
  obtain ⟨a, b⟩ := sumI_mem ys fun x hx => h x (by simp [hx])
  have := h y (by simp)
  refine ⟨show 0 ≤ y + sumI ys by omega, fun x hx => ?_⟩
  show x ≤ y + sumI ys
  rcases List.mem_cons.1 hx with rfl | hx
  ·omega
  ·have := b x hx; omega
theorem sumI_rep (n : Nat) : sumI (List.replicate n 0) = 0 := by
 induction n with
 | zero => rfl
 | succ n ih => show 0 + sumI (List.replicate n 0) = 0; omega
def inW (w : G_Window) (c : G_Contact) : Bool := decide (w.f_From ≤ c.f_At) && decide (c.f_At < w.f_To)
def cntW (w : G_Window) : List G_Contact → Int
 | [] => 0
 | c :: cs => (bif inW w c then 1 else 0) + cntW w cs
theorem cntW_cons (w : G_Window) (c : G_Contact) (cs : List G_Contact) : cntW w (c :: cs) = (bif inW w c then 1 else 0) + cntW w cs := rfl
theorem cntW_le (w : G_Window) : ∀ l : List G_Contact, 0 ≤ cntW w l ∧ cntW w l ≤ (l.length : Int)
 | [] => ⟨Int.le_refl _, Int.le_refl _⟩
 | c :: cs => by
  have := cntW_le w cs
  unfold cntW
  cases inW w c <;> simp <;> omega
theorem inW_is {w : G_Window} {c : G_Contact} : inW w c = true ↔ w.f_From ≤ c.f_At ∧ c.f_At < w.f_To := by unfold inW; simp
theorem Hours_L11 (l : List G_Contact) (hl : l.length ≤ 1000) (w : G_Window) (hw1 : 0 ≤ w.f_From) (hw2 : w.f_To ≤ 345686400000) (N : Nat) (hN : w.f_To - w.f_From ≤ 3600000 * (N : Int)) :
  ∀ (xs : List G_Contact) (n i : Nat) (h : List Int), l.drop i = xs → xs.length < n → h.length = N → (∀ x ∈ h, 0 ≤ x) → sumI h ≤ (i : Int) →
  ∃ h' : List Int, h'.length = N ∧ (∀ x ∈ h', 0 ≤ x) ∧ sumI h' = sumI h + cntW w xs ∧ ∀ (R : Type) (e0 : List Int → Option R), log_Hours_L11 I_log_Hours n l (l.length : Int) (i : Int) w h e0 = e0 h'
 | _, 0, _, _, _, h, _, _, _ => by omega
 | [], n + 1, i, h, hd, _, h1, h2, _ => ⟨h, h1, h2, by show sumI h = sumI h + 0; omega, fun R e0 => by rw [log_Hours_L11, ge_drop hd]; rfl⟩
 | c :: cs, n + 1, i, h, hd, hn, h1, h2, h3 => by
  have h' := drop_cons hd
  simp at hn
  have hk : ∀ {R : Type} (k : Bool → Option R), I_log_Hours.kit_Has w c.f_At k = k (inW w c) := fun {R} k => kit_Has_is w c.f_At R k
  have hi : w64 ((i : Int) + 1) = ((i + 1 : Nat) : Int) := w64_succ (by have := h'.2.1; omega)
  cases hb : inW w c with
  | false =>
   obtain ⟨h9, g1, g2, g3, g4⟩ := Hours_L11 l hl w hw1 hw2 N hN cs n (i + 1) h h'.2.2.1 (by omega) h1 h2 (by omega)
   refine ⟨h9, g1, g2, by rw [g3, cntW_cons, hb]; simp, fun R e0 => ?_⟩
   rw [log_Hours_L11, lt_drop hd]
   simp only [cond_true, get_drop hd, hk, hb, cond_false, hi]
   exact g4 R e0
  | true =>
   have hw := inW_is.1 hb
   obtain ⟨j, hj⟩ : ∃ j : Nat, (c.f_At - w.f_From) / 3600000 = (j : Int) := Int.eq_ofNat_of_zero_le (by omega)
   have hjN : j < h.length := by omega
   have e1 : w64 (Int.tdiv (w64 (c.f_At - w.f_From)) 3600000) = (j : Int) := by
    rw [w64_eq (x := c.f_At - w.f_From) (by omega) (by omega), Int.tdiv_eq_ediv_of_nonneg (by omega), hj, w64_eq (by omega) (by omega)]
   have hq : h[j]? = some h[j] := List.getElem?_eq_getElem hjN
   have hx0 := h2 h[j] (List.getElem_mem hjN)
   have hx1 := (sumI_mem h h2).2 h[j] (List.getElem_mem hjN)
   have hs := sumI_set h j h[j] hq
   obtain ⟨h9, g1, g2, g3, g4⟩ := Hours_L11 l hl w hw1 hw2 N hN cs n (i + 1) (h.set j (h[j] + 1)) h'.2.2.1 (by omega) (by simp [h1]) (fun x hx => by
    rcases List.mem_or_eq_of_mem_set hx with hx | hx
    ·exact h2 x hx
    ·omega) (by omega)
   refine ⟨h9, g1, g2, by rw [g3, hs, cntW_cons, hb]; simp; omega, fun R e0 => ?_⟩
   rw [log_Hours_L11, lt_drop hd]
   simp only [cond_true, get_drop hd, hk, hb, e1, inr_nat hjN, at_nat hq, set_nat, hi, w64_eq (x := h[j] + 1) (by have := h'.2.1; omega) (by have := h'.2.1; omega)]
   exact g4 R e0
theorem log_Hours_gives {l : List G_Contact} (hf : ∀ c ∈ l, Fine c) (h0 : faultL l = 0) (hl : l.length ≤ 999) {w : G_Window} (hw1 : 0 ≤ w.f_From) (hw2 : w.f_From ≤ w.f_To) (hw3 : w.f_To ≤ 345686400000) (hw4 : w.f_To - w.f_From ≤ 9000000) :
  ∃ h : List Int, h.length ≤ 1000 ∧ (∀ x ∈ h, 0 ≤ x) ∧ sumI h = cntW w l ∧ ∀ (R : Type) (k : List Int → Int → Option R), log_Hours l w k = k h 0 := by
 obtain ⟨N, hN⟩ : ∃ j : Nat, (w.f_To - w.f_From + 3600000 - 1) / 3600000 = (j : Int) := Int.eq_ofNat_of_zero_le (by omega)
 have e1 : w64 (Int.tdiv (w64 (w64 (w64 (w.f_To - w.f_From) + 3600000) - 1)) 3600000) = (N : Int) := by
  rw [w64_eq (x := w.f_To - w.f_From) (by omega) (by omega), w64_eq (x := w.f_To - w.f_From + 3600000) (by omega) (by omega), w64_eq (x := w.f_To - w.f_From + 3600000 - 1) (by omega) (by omega), Int.tdiv_eq_ediv_of_nonneg (by omega), hN, w64_eq (by omega) (by omega)]
 obtain ⟨h, g1, g2, g3, g4⟩ := Hours_L11 l (by omega) w hw1 hw3 N (by omega) l NN 0 (List.replicate N 0) rfl (by have := NN_ok; omega) (by simp) (fun x hx => by rw [(List.mem_replicate.1 hx).2]; exact Int.le_refl _) (by rw [sumI_rep]; exact Int.le_refl _)
 refine ⟨h, by omega, g2, by rw [g3, sumI_rep]; omega, fun R k => ?_⟩
 have a1 : ∀ k : Int → Option R, I_log_Hours.log_CheckLog l k = k 0 := fun k => by
  have := log_CheckLog_is hf (show l.length ≤ 100000 by omega) R k
  rw [h0] at this
  exact this
 have a2 : ∀ k : Bool → Option R, I_log_Hours.kit_IsWindow w k = k true := fun k => kit_IsWindow_gives hw1 hw2 hw3 R k
 have a4 : ∀ e0 : List Int → Option R, log_Hours_L11 I_log_Hours I_log_Hours.N l (l.length : Int) 0 w (List.replicate N 0) e0 = e0 h := fun e0 => g4 R e0
 have e2 : decide ((N : Int) > 1000) = false := decide_eq_false (by omega)
 have e3 : decide (0 ≤ (N : Int)) = true := decide_eq_true (by omega)
 have e4 : decide ((N : Int) ≤ (N : Int)) = true := decide_eq_true (Int.le_refl _)
 have e5 : decide ((N : Int) * (8 : Nat) ≤ 140737488355328) = true := decide_eq_true (by omega)
 simp only [log_Hours, log_Hours_, a1, bne_self_eq_false, cond_false, a2, Bool.not_true, e1, e2, e3, e4, e5, Bool.and_true, cond_true, Int.toNat_natCast, a4]
theorem keep_PausesAreEmpty_1_is (y : G_Window) (c : G_Contact) (R : Type) (k : Bool → G_Contact → Option R) : keep_PausesAreEmpty_1 y c k = k (inW y c) c := by
 simp only [keep_PausesAreEmpty_1, keep_PausesAreEmpty_1_, inW]
 cases decide (y.f_From ≤ c.f_At) <;> rfl
theorem PE_contains {p : List G_Window} {c : G_Contact} (hp : ∀ y ∈ p, inW y c = false) (hl : p.length ≤ 100000) (R : Type) (k : Bool → G_Contact → Option R) : slices_ContainsFunc__Window_keep_PausesAreEmpty_1 p c k = k false c := by
 simp only [slices_ContainsFunc__Window_keep_PausesAreEmpty_1, slices_ContainsFunc__Window_keep_PausesAreEmpty_1_, I_slices_ContainsFunc__Window_keep_PausesAreEmpty_1, li_slices_IndexFunc__Window_keep_PausesAreEmpty_1]
 rw [sIndexF_is _ (fun y => inW y c) c p (fun x hx R k => keep_PausesAreEmpty_1_is x c R k) (by have := NN_ok; omega) (by have := NN_ok; omega), idxI_ge]
 have : p.any (fun y => inW y c) = false := by
  rw [List.any_eq_false]
  intro y hy
  rw [hp y hy]; simp
 rw [this]
theorem PE_L11 (l : List G_Contact) (hl : l.length ≤ 1000) (w : G_Window) (p : List G_Window) (hpl : p.length ≤ 100000) (hp : ∀ y ∈ p, Emp l y) (h : List Int) (sm : Int) :
  ∀ (xs : List G_Contact) (n i : Nat) (acc : Int), l.drop i = xs → xs.length < n → 0 ≤ acc → acc ≤ (i : Int) →
  ∀ (R : Type) (e0 : Bool → Int → Int → List Int → Option R) (e1 : Int → Int → List Int → Option R), keep_PausesAreEmpty_L11 I_keep_PausesAreEmpty n acc sm (l.length : Int) (i : Int) l w p h e0 e1 = e1 (acc + cntW w xs) sm h
 | _, 0, _, _, _, h, _, _, _, _, _ => by omega
 | [], n + 1, i, acc, hd, _, _, _, R, e0, e1 => by rw [keep_PausesAreEmpty_L11, ge_drop hd]; show e1 acc sm h = e1 (acc + 0) sm h; rw [Int.add_zero]
 | c :: cs, n + 1, i, acc, hd, hn, h1, h2, R, e0, e1 => by
  have h' := drop_cons hd
  simp at hn
  have hc : ∀ (k : Bool → G_Contact → Option R), I_keep_PausesAreEmpty.slices_ContainsFunc__Window_keep_PausesAreEmpty_1 p c k = k false c := fun k => PE_contains (fun y hy => by
   cases hb : inW y c with
   | false => rfl
   | true => exact (hp y hy c (mem_drop hd) (inW_is.1 hb).1 (inW_is.1 hb).2).elim) hpl R k
  have hi : w64 ((i : Int) + 1) = ((i + 1 : Nat) : Int) := w64_succ (by have := h'.2.1; omega)
  have ha : w64 (acc + 1) = acc + 1 := w64_eq (by omega) (by have := h'.2.1; omega)
  have ih0 := PE_L11 l hl w p hpl hp h sm cs n (i + 1) acc h'.2.2.1 (by omega) h1 (by omega) R e0 e1
  have ih1 := PE_L11 l hl w p hpl hp h sm cs n (i + 1) (acc + 1) h'.2.2.1 (by omega) (by omega) (by omega) R e0 e1
  have e : acc + cntW w (c :: cs) = acc + (bif inW w c then 1 else 0) + cntW w cs := by rw [cntW_cons]; omega
  rw [keep_PausesAreEmpty_L11, lt_drop hd, e]
  simp only [cond_true, inr_drop hd, at_drop hd, hc, cond_false, hi, ha, ih0, ih1, inW]
  by_cases q1 : w.f_From ≤ c.f_At
  ·by_cases q2 : c.f_At < w.f_To
   ·simp [q1, q2]
   ·simp [q1, q2]
  ·simp [q1]
theorem PE_L19 (h : List Int) (hl : h.length ≤ 1000) (h0 : ∀ x ∈ h, 0 ≤ x) (hs : sumI h ≤ 1000000) (m : Int) :
  ∀ (xs : List Int) (n i : Nat) (acc : Int), h.drop i = xs → xs.length < n → 0 ≤ acc → acc + sumI xs ≤ 1000000 →
  ∀ (R : Type) (e0 : Int → Int → Option R), keep_PausesAreEmpty_L19 I_keep_PausesAreEmpty n m acc (h.length : Int) (i : Int) h e0 = e0 m (acc + sumI xs)
 | _, 0, _, _, _, h, _, _, _, _ => by omega
 | [], n + 1, i, acc, hd, _, _, _, R, e0 => by rw [keep_PausesAreEmpty_L19, ge_drop hd]; show e0 m acc = e0 m (acc + 0); rw [Int.add_zero]
 | x :: xs, n + 1, i, acc, hd, hn, h1, h2, R, e0 => by
  have h' := drop_cons hd
  simp at hn
  have hx := h0 x (mem_drop hd)
  have hxs := (sumI_mem xs fun y hy => h0 y (List.mem_of_mem_drop (i := i + 1) (by rw [h'.2.2.1]; exact hy))).1
  have e : acc + sumI (x :: xs) = acc + x + sumI xs := by
   show acc + (x + sumI xs) = _
   omega
  rw [e] at h2
  have ih := PE_L19 h hl h0 hs m xs n (i + 1) (acc + x) h'.2.2.1 (by omega) (by omega) h2 R e0
  rw [keep_PausesAreEmpty_L19, lt_drop hd, e]
  simp only [cond_true, inr_drop hd, at_drop hd, w64_succ (show i < 4611686018427387904 by have := h'.2.1; omega), w64_eq (x := acc + x) (by omega) (by omega), ih]
theorem keep_PausesAreEmpty_true (l : List Int) (R : Type) (k : Bool → Option R) : keep_PausesAreEmpty l k = k true := by
 obtain ⟨m, s1, m1, m2, z1, e1⟩ := Stream_Range_gives (sOk0 l) 0 12 (by omega) (by omega) (by omega) (by omega) (by omega)
 obtain ⟨m, rfl⟩ := Int.eq_ofNat_of_zero_le m1
 obtain ⟨x, s2, z2, lx, hx, fx, e2⟩ := RightContacts_gives z1 (by omega) m (by omega)
 obtain ⟨a, s3, a1, a2, z3, e3⟩ := Stream_Range_gives z2 0 100000 (by omega) (by omega) (by omega) (by omega) (by omega)
 obtain ⟨b, s4, b1, b2, z4, e4⟩ := Stream_Range_gives z3 0 9000000 (by omega) (by omega) (by omega) (by omega) (by omega)
 obtain ⟨c, s5, c1, c2, z5, e5⟩ := Stream_Range_gives z4 1 50000 (by omega) (by omega) (by omega) (by omega) (by omega)
 have hab : w64 (a + b) = a + b := w64_eq (by omega) (by omega)
 obtain ⟨p, p1, p2, p3⟩ := log_Pauses_gives (w := ⟨a, a + b⟩) (least := c) hx fx (by omega) (by simp only; omega) (by simp only; omega) (by simp only; omega) (by omega) (by omega)
 obtain ⟨h, q1, q2, q3, q4⟩ := log_Hours_gives (w := ⟨a, a + b⟩) hx fx (by omega) (by simp only; omega) (by simp only; omega) (by simp only; omega) (by simp only; omega)
 have hcw := cntW_le ⟨a, a + b⟩ x
 have c11 : ∀ (e0 : Bool → Int → Int → List Int → Option R) (e1 : Int → Int → List Int → Option R), keep_PausesAreEmpty_L11 I_keep_PausesAreEmpty NN 0 0 (x.length : Int) 0 x ⟨a, a + b⟩ p h e0 e1 = e1 (cntW ⟨a, a + b⟩ x) 0 h := fun e0 e1 => by
  have := PE_L11 x (by omega) ⟨a, a + b⟩ p (by omega) p2 h 0 x NN 0 0 rfl (by have := NN_ok; omega) (by omega) (by omega) R e0 e1
  rw [Int.zero_add] at this
  exact this
 have c19 : ∀ (e0 : Int → Int → Option R), keep_PausesAreEmpty_L19 I_keep_PausesAreEmpty NN (cntW ⟨a, a + b⟩ x) 0 (h.length : Int) 0 h e0 = e0 (cntW ⟨a, a + b⟩ x) (sumI h) := fun e0 => by
  have := PE_L19 h q1 q2 (by omega) (cntW ⟨a, a + b⟩ x) h NN 0 0 rfl (by have := NN_ok; omega) (by omega) (by omega) R e0
  rw [Int.zero_add] at this
  exact this
 have d1 : ∀ k : List G_Window → Int → Option R, log_Pauses x ⟨a, a + b⟩ c k = k p 0 := fun k => p3 R k
 have d2 : ∀ k : List Int → Int → Option R, log_Hours x ⟨a, a + b⟩ k = k h 0 := fun k => q4 R k
 simp only [I_keep_PausesAreEmpty] at c11 c19
 simp only [keep_PausesAreEmpty, keep_PausesAreEmpty_, I_keep_PausesAreEmpty, e1, e2, e3, e4, e5, hab, d1, d2, keep_errs_is [0, 0] (by simp), show orL [0, 0] = 0 from rfl, bne_self_eq_false, cond_false]
 refine (c11 _ _).trans ((c19 _).trans ?_)
 rw [q3, beq_self_eq_true, cond_true]
 exact keep_ready_is R k
end Go.Am
