/- The plain law, in Lean alone: Pl8, Pl9, Pl10, Pl11, Pl12. No condition: lemmas for the claim. -/
import Derived.Test.YthfphbbhjodbcaaGreatDoorPlC
set_option linter.unusedVariables false
set_option linter.unusedSimpArgs false
set_option maxRecDepth 100000
namespace Go.Am
open Go Go.Proofs
theorem eq_row_loop (l : List (G_Row)) (hl : l.length ≤ 1000000) : ∀ (n i : Nat), l.length - i < n → i ≤ l.length → ∀ (R : Type) (e0 : Bool → Option R) (e1 : Option R), L23_4 NN n l l (l.length : Int) (i : Int) e0 e1 = e1
  | 0, i, h, _ => by omega
  | n + 1, i, h, hi => by
    intro R e0 e1
    by_cases hlt : i < l.length
    · have d1 : decide ((i : Int) < (l.length : Int)) = true := by simpa using hlt
      have d2 : decide (0 ≤ (i : Int)) = true := by simp
      have g1 : l[((i : Int)).toNat]? = some l[i] := by rw [Int.toNat_natCast]; exact List.getElem?_eq_getElem hlt
      have e2 : IntKind.i64.wrap ((i : Int) + 1) = ((i + 1 : Nat) : Int) := by rw [wr (by omega) (by omega)]; omega
      rw [L23_4]
      simp only [d1, cond_true, d2, g1, beq_self_eq_true, bne_self_eq_false, Bool.and_self, Bool.not_true, cond_false, e2]
      exact eq_row_loop l hl n (i + 1) (by omega) (by omega) R e0 e1
    · have d1 : decide ((i : Int) < (l.length : Int)) = false := decide_eq_false (by omega)
      rw [L23_4]
      simp only [d1, cond_false]
theorem eq_row (l : List (G_Row)) (hl : l.length ≤ 150000) (R : Type) (k : Bool → Option R) : F23 NN l l k = k true := by
  unfold F23 F23_
  simp only [bne_self_eq_false, cond_false]
  exact eq_row_loop l (by omega) NN 0 (by unfold NN; omega) (by omega) R _ _
theorem eq_int_loop (l : List (Int)) (hl : l.length ≤ 1000000) : ∀ (n i : Nat), l.length - i < n → i ≤ l.length → ∀ (R : Type) (e0 : Bool → Option R) (e1 : Option R), L24_4 NN n l l (l.length : Int) (i : Int) e0 e1 = e1
  | 0, i, h, _ => by omega
  | n + 1, i, h, hi => by
    intro R e0 e1
    by_cases hlt : i < l.length
    · have d1 : decide ((i : Int) < (l.length : Int)) = true := by simpa using hlt
      have d2 : decide (0 ≤ (i : Int)) = true := by simp
      have g1 : l[((i : Int)).toNat]? = some l[i] := by rw [Int.toNat_natCast]; exact List.getElem?_eq_getElem hlt
      have e2 : IntKind.i64.wrap ((i : Int) + 1) = ((i + 1 : Nat) : Int) := by rw [wr (by omega) (by omega)]; omega
      rw [L24_4]
      simp only [d1, cond_true, d2, g1, beq_self_eq_true, bne_self_eq_false, Bool.and_self, Bool.not_true, cond_false, e2]
      exact eq_int_loop l hl n (i + 1) (by omega) (by omega) R e0 e1
    · have d1 : decide ((i : Int) < (l.length : Int)) = false := decide_eq_false (by omega)
      rw [L24_4]
      simp only [d1, cond_false]
theorem eq_int (l : List (Int)) (hl : l.length ≤ 150000) (R : Type) (k : Bool → Option R) : F24 NN l l k = k true := by
  unfold F24 F24_
  simp only [bne_self_eq_false, cond_false]
  exact eq_int_loop l (by omega) NN 0 (by unfold NN; omega) (by omega) R _ _
theorem eq_con_loop (l : List (G_Contact)) (hl : l.length ≤ 1000000) : ∀ (n i : Nat), l.length - i < n → i ≤ l.length → ∀ (R : Type) (e0 : Bool → Option R) (e1 : Option R), L25_4 NN n l l (l.length : Int) (i : Int) e0 e1 = e1
  | 0, i, h, _ => by omega
  | n + 1, i, h, hi => by
    intro R e0 e1
    by_cases hlt : i < l.length
    · have d1 : decide ((i : Int) < (l.length : Int)) = true := by simpa using hlt
      have d2 : decide (0 ≤ (i : Int)) = true := by simp
      have g1 : l[((i : Int)).toNat]? = some l[i] := by rw [Int.toNat_natCast]; exact List.getElem?_eq_getElem hlt
      have e2 : IntKind.i64.wrap ((i : Int) + 1) = ((i + 1 : Nat) : Int) := by rw [wr (by omega) (by omega)]; omega
      rw [L25_4]
      simp only [d1, cond_true, d2, g1, beq_self_eq_true, bne_self_eq_false, Bool.and_self, Bool.not_true, cond_false, e2]
      exact eq_con_loop l hl n (i + 1) (by omega) (by omega) R e0 e1
    · have d1 : decide ((i : Int) < (l.length : Int)) = false := decide_eq_false (by omega)
      rw [L25_4]
      simp only [d1, cond_false]
theorem eq_con (l : List (G_Contact)) (hl : l.length ≤ 150000) (R : Type) (k : Bool → Option R) : F25 NN l l k = k true := by
  unfold F25 F25_
  simp only [bne_self_eq_false, cond_false]
  exact eq_con_loop l (by omega) NN 0 (by unfold NN; omega) (by omega) R _ _
theorem eq_win_loop (l : List (G_Window)) (hl : l.length ≤ 1000000) : ∀ (n i : Nat), l.length - i < n → i ≤ l.length → ∀ (R : Type) (e0 : Bool → Option R) (e1 : Option R), L26_4 NN n l l (l.length : Int) (i : Int) e0 e1 = e1
  | 0, i, h, _ => by omega
  | n + 1, i, h, hi => by
    intro R e0 e1
    by_cases hlt : i < l.length
    · have d1 : decide ((i : Int) < (l.length : Int)) = true := by simpa using hlt
      have d2 : decide (0 ≤ (i : Int)) = true := by simp
      have g1 : l[((i : Int)).toNat]? = some l[i] := by rw [Int.toNat_natCast]; exact List.getElem?_eq_getElem hlt
      have e2 : IntKind.i64.wrap ((i : Int) + 1) = ((i + 1 : Nat) : Int) := by rw [wr (by omega) (by omega)]; omega
      rw [L26_4]
      simp only [d1, cond_true, d2, g1, beq_self_eq_true, bne_self_eq_false, Bool.and_self, Bool.not_true, cond_false, e2]
      exact eq_win_loop l hl n (i + 1) (by omega) (by omega) R e0 e1
    · have d1 : decide ((i : Int) < (l.length : Int)) = false := decide_eq_false (by omega)
      rw [L26_4]
      simp only [d1, cond_false]
theorem eq_win (l : List (G_Window)) (hl : l.length ≤ 150000) (R : Type) (k : Bool → Option R) : F26 NN l l k = k true := by
  unfold F26 F26_
  simp only [bne_self_eq_false, cond_false]
  exact eq_win_loop l (by omega) NN 0 (by unfold NN; omega) (by omega) R _ _
theorem F15_3 (a b c : Int) (R : Type) (k : Int → Option R) : F15 NN [a, b, c] k = bif a != 0 then k a else bif b != 0 then k b else bif c != 0 then k c else k 0 := by kernel_rfl
theorem F15_2 (a b : Int) (R : Type) (k : Int → Option R) : F15 NN [a, b] k = bif a != 0 then k a else bif b != 0 then k b else k 0 := by kernel_rfl
theorem F17_is (b : Bool) (e : Int) (R : Type) (k : Int → Option R) : F17 NN b e k = k (bif b then e else 0) := by
  unfold F17 F17_
  cases b <;> rfl
theorem F27_is (R : Type) (k : Bool → Option R) : F27 NN k = k true := by kernel_rfl
theorem J25_true (e f h i : Int) (r : List G_Row) (t : List Int) (n : List G_Contact) (dd : List Int) (p : List G_Window) (o : List Int) (hr : r.length ≤ 150000) (ht : t.length ≤ 150000) (hn : n.length ≤ 150000) (hd : dd.length ≤ 150000) (hp : p.length ≤ 150000) (ho : o.length ≤ 150000)
    (R : Type) (k : Bool → Option R) : J3_25 (@F5 NN) (@F6 NN) (@F7 NN) (@F8 NN) (@F9 NN) (@F10 NN) (@F11 NN) (@F12 NN) (@F13 NN) (@F14 NN) (@F15 NN) (@F16 NN) (@F17 NN) (@F18 NN) (@F19 NN) (@F20 NN) (@F21 NN) (@F22 NN) (@F23 NN) (@F23_1 NN) (@F24 NN) (@F24_1 NN) (@F25 NN) (@F25_1 NN) (@F26 NN) (@F26_1 NN) (@F27 NN) NN e f e h i e f h i r t n dd p o r t dd n p o k = k true := by
  unfold J3_25
  rw [beq_self_eq_true, cond_true, eq_row r hr, cond_true, eq_int t ht, cond_true, beq_self_eq_true, cond_true, eq_con n hn, cond_true, beq_self_eq_true, cond_true, eq_int dd hd, cond_true, beq_self_eq_true, cond_true, eq_win p hp, cond_true, cond_true, eq_int o ho, cond_true, F27_is]
end Go.Am
namespace Go.Am
open Go Go.Proofs
theorem J23_true (e f h i i3 : Int) (d : List G_Contact) (wf wt : Int) (r : List G_Row) (t : List Int) (n : List G_Contact) (dd : List Int) (p : List G_Window) (o : List Int) (hr : r.length ≤ 150000) (ht : t.length ≤ 150000) (hn : n.length ≤ 150000) (hd : dd.length ≤ 150000) (hp : p.length ≤ 150000) (ho : o.length ≤ 150000)
    (h3 : (i3 = 0 ∧ ∀ (R : Type) (k : List Int → Int → Option R), F22 NN d wf wt k = k o i) ∨ (i3 ≠ 0 ∧ o = [] ∧ i = i3)) (R : Type) (k : Bool → Option R) :
    J3_23 (@F5 NN) (@F6 NN) (@F7 NN) (@F8 NN) (@F9 NN) (@F10 NN) (@F11 NN) (@F12 NN) (@F13 NN) (@F14 NN) (@F15 NN) (@F16 NN) (@F17 NN) (@F18 NN) (@F19 NN) (@F20 NN) (@F21 NN) (@F22 NN) (@F23 NN) (@F23_1 NN) (@F24 NN) (@F24_1 NN) (@F25 NN) (@F25_1 NN) (@F26 NN) (@F26_1 NN) (@F27 NN) NN e f e h i e f h i3 d wf wt r t n dd p o r t dd n p k = k true := by
  unfold J3_23
  rcases h3 with ⟨h1, h2⟩ | ⟨h1, h2, h4⟩
  · have e1 : (i3 == 0) = true := by simpa using h1
    rw [e1, cond_true, h2]
    exact J25_true e f h i r t n dd p o hr ht hn hd hp ho R k
  · have e1 : (i3 == 0) = false := by simpa using h1
    rw [e1, cond_false]
    subst h2 h4
    exact J25_true e f h i r t n dd p [] hr ht hn hd hp ho R k
theorem J20_true (least e f h i i3 : Int) (d : List G_Contact) (wf wt : Int) (r : List G_Row) (t : List Int) (n : List G_Contact) (dd : List Int) (p : List G_Window) (o : List Int) (hr : r.length ≤ 150000) (ht : t.length ≤ 150000) (hn : n.length ≤ 150000) (hd : dd.length ≤ 150000) (hp : p.length ≤ 150000) (ho : o.length ≤ 150000)
    (h3 : (i3 = 0 ∧ ∀ (R : Type) (k : List Int → Int → Option R), F22 NN d wf wt k = k o i) ∨ (i3 ≠ 0 ∧ o = [] ∧ i = i3))
    (h2 : (h = 0 ∧ ∀ (R : Type) (k : List G_Window → Option R), F21 NN d wf wt least k = k p) ∨ (h ≠ 0 ∧ p = [])) (R : Type) (k : Bool → Option R) :
    J3_20 (@F5 NN) (@F6 NN) (@F7 NN) (@F8 NN) (@F9 NN) (@F10 NN) (@F11 NN) (@F12 NN) (@F13 NN) (@F14 NN) (@F15 NN) (@F16 NN) (@F17 NN) (@F18 NN) (@F19 NN) (@F20 NN) (@F21 NN) (@F22 NN) (@F23 NN) (@F23_1 NN) (@F24 NN) (@F24_1 NN) (@F25 NN) (@F25_1 NN) (@F26 NN) (@F26_1 NN) (@F27 NN) NN least e f e h i e f h i3 d wf wt r t n dd p o r t dd n k = k true := by
  unfold J3_20
  rcases h2 with ⟨h1, h4⟩ | ⟨h1, h4⟩
  · have e1 : (h == 0) = true := by simpa using h1
    rw [e1, cond_true, h4]
    exact J23_true e f h i i3 d wf wt r t n dd p o hr ht hn hd hp ho h3 R k
  · have e1 : (h == 0) = false := by simpa using h1
    rw [e1, cond_false]
    subst h4
    exact J23_true e f h i i3 d wf wt r t n dd [] o hr ht hn hd hp ho h3 R k
theorem J13_true (fr least e f f0 h i i3 : Int) (d : List G_Contact) (wf wt : Int) (r : List G_Row) (t : List Int) (n : List G_Contact) (dd : List Int) (p : List G_Window) (o : List Int) (hr : r.length ≤ 150000) (ht : t.length ≤ 150000) (hn : n.length ≤ 150000) (hd : dd.length ≤ 150000) (hp : p.length ≤ 150000) (ho : o.length ≤ 150000)
    (h3 : (i3 = 0 ∧ ∀ (R : Type) (k : List Int → Int → Option R), F22 NN d wf wt k = k o i) ∨ (i3 ≠ 0 ∧ o = [] ∧ i = i3))
    (h2 : (h = 0 ∧ ∀ (R : Type) (k : List G_Window → Option R), F21 NN d wf wt least k = k p) ∨ (h ≠ 0 ∧ p = []))
    (h0 : (e = 0 ∧ (∀ (R : Type) (k : List G_Row → List Int → Option R), F18 NN d k = k r t) ∧ (∀ (R : Type) (k : List Int → Option R), F19 NN d k = k dd) ∧ (∀ (R : Type) (k : List G_Contact → Int → Option R), F20 NN d fr k = k n f)) ∨
      (e ≠ 0 ∧ r = [] ∧ t = [] ∧ dd = [] ∧ n = [] ∧ f = f0)) (R : Type) (k : Bool → Option R) :
    J3_13 (@F5 NN) (@F6 NN) (@F7 NN) (@F8 NN) (@F9 NN) (@F10 NN) (@F11 NN) (@F12 NN) (@F13 NN) (@F14 NN) (@F15 NN) (@F16 NN) (@F17 NN) (@F18 NN) (@F19 NN) (@F20 NN) (@F21 NN) (@F22 NN) (@F23 NN) (@F23_1 NN) (@F24 NN) (@F24_1 NN) (@F25 NN) (@F25_1 NN) (@F26 NN) (@F26_1 NN) (@F27 NN) NN fr least e f e h i e f0 h i3 d wf wt r t n dd p o k = k true := by
  unfold J3_13
  rcases h0 with ⟨h1, g1, g2, g3⟩ | ⟨h1, g1, g2, g3, g4, g5⟩
  · have e1 : (e == 0) = true := by simpa using h1
    rw [e1, cond_true, g1, g2, g3]
    exact J20_true least e f h i i3 d wf wt r t n dd p o hr ht hn hd hp ho h3 h2 R k
  · have e1 : (e == 0) = false := by simpa using h1
    rw [e1, cond_false]
    subst g1 g2 g3 g4 g5
    exact J20_true least e f h i i3 d wf wt [] [] [] [] p o hr ht hn hd hp ho h3 h2 R k
end Go.Am
namespace Go.Am
open Go Go.Proofs
def lfB (least : Int) : Int := bif inB least 1 86400000 then 0 else 1
def err3 (a b c : Int) : Int := bif a != 0 then a else bif b != 0 then b else c
def err2 (a b : Int) : Int := bif a != 0 then a else b
theorem F15_3' (a b c : Int) (R : Type) (k : Int → Option R) : F15 NN [a, b, c] k = k (err3 a b c) := by
  rw [F15_3]; unfold err3
  cases h1 : a != 0 <;> cases h2 : b != 0 <;> cases h3 : c != 0 <;> try rfl
  have : c = 0 := by simpa using h3
  rw [this]; rfl
theorem F15_2' (a b : Int) (R : Type) (k : Int → Option R) : F15 NN [a, b] k = k (err2 a b) := by
  rw [F15_2]; unfold err2
  cases h1 : a != 0 <;> cases h2 : b != 0 <;> try rfl
  have : b = 0 := by simpa using h2
  rw [this]; rfl
theorem lf_is (least : Int) : (bif decide (least < 1) then (1 : Int) else bif decide (least > 86400000) then 1 else 0) = lfB least := by
  unfold lfB inB
  by_cases h1 : least < 1
  · have : decide ((1 : Int) ≤ least) = false := decide_eq_false (by omega)
    rw [decide_eq_true h1, this]; rfl
  · have : decide ((1 : Int) ≤ least) = true := decide_eq_true (by omega)
    rw [decide_eq_false h1, this]
    by_cases h2 : least ≤ 86400000
    · rw [decide_eq_false (show ¬ least > 86400000 by omega), decide_eq_true h2]; rfl
    · rw [decide_eq_true (show least > 86400000 by omega), decide_eq_false h2]; rfl
end Go.Am
namespace Go.Am
open Go Go.Proofs
theorem J6_true (fr least : Int) (d : List G_Contact) (f t : Int) (h0 : 0 ≤ fr) (h1 : fr ≤ 99999) (hf : ∀ c ∈ d, Fine c) (hl : d.length ≤ 100) (R : Type) (k : Bool → Option R) :
    J3_6 (@F5 NN) (@F6 NN) (@F7 NN) (@F8 NN) (@F9 NN) (@F10 NN) (@F11 NN) (@F12 NN) (@F13 NN) (@F14 NN) (@F15 NN) (@F16 NN) (@F17 NN) (@F18 NN) (@F19 NN) (@F20 NN) (@F21 NN) (@F22 NN) (@F23 NN) (@F23_1 NN) (@F24 NN) (@F24_1 NN) (@F25 NN) (@F25_1 NN) (@F26 NN) (@F26_1 NN) (@F27 NN) NN fr least d f t k = k true := by
  obtain ⟨e, hv, h37, h14⟩ := log_gives d hf (by omega)
  have key : ∃ r tt n e2 dd p h o i, r.length ≤ 150000 ∧ tt.length ≤ 150000 ∧ n.length ≤ 150000 ∧ dd.length ≤ 150000 ∧ p.length ≤ 150000 ∧ o.length ≤ 150000 ∧
      (∀ (R : Type) (k : List G_Row → List Int → Int → Option R), F9 NN d k = k r tt e) ∧
      (∀ (R : Type) (k : List G_Contact → Int → Option R), F10 NN d fr k = k n e2) ∧
      (∀ (R : Type) (k : List Int → Int → Option R), F11 NN d k = k dd e) ∧
      (∀ (R : Type) (k : List G_Window → Int → Option R), F12 NN d f t least k = k p h) ∧
      (∀ (R : Type) (k : List Int → Int → Option R), F13 NN d f t k = k o i) ∧
      h = err3 e (bif winB f t then 0 else 1) (lfB least) ∧
      ((err2 e (bif winB f t then 0 else 1) = 0 ∧ ∀ (R : Type) (k : List Int → Int → Option R), F22 NN d f t k = k o i) ∨ (err2 e (bif winB f t then 0 else 1) ≠ 0 ∧ o = [] ∧ i = err2 e (bif winB f t then 0 else 1))) ∧
      ((h = 0 ∧ ∀ (R : Type) (k : List G_Window → Option R), F21 NN d f t least k = k p) ∨ (h ≠ 0 ∧ p = [])) ∧
      ((e = 0 ∧ (∀ (R : Type) (k : List G_Row → List Int → Option R), F18 NN d k = k r tt) ∧ (∀ (R : Type) (k : List Int → Option R), F19 NN d k = k dd) ∧ (∀ (R : Type) (k : List G_Contact → Int → Option R), F20 NN d fr k = k n e2)) ∨
        (e ≠ 0 ∧ r = [] ∧ tt = [] ∧ dd = [] ∧ n = [] ∧ e2 = e)) := by
    by_cases he : e = 0
    · subst he
      have hv := hv rfl
      obtain ⟨r1, t1, b1, b1', s1, s2⟩ := serials_give d hv (by omega) h37
      obtain ⟨r2, e2, b2, n1, n2⟩ := renumber_give d fr h0 h1 (by omega) h37
      obtain ⟨r3, b3, u1, u2⟩ := dupes_give d hf (by omega) h37
      cases hw : winB f t with
      | false =>
        have p1 : ∀ (R : Type) (k : List G_Window → Int → Option R), F12 NN d f t least k = k [] 1 := fun R k => by
          unfold F12 F12_; simp only [h37, bne_self_eq_false, cond_false, F44_is, hw, Bool.not_false, cond_true]
        have p2 : ∀ (R : Type) (k : List Int → Int → Option R), F13 NN d f t k = k [] 1 := fun R k => by
          unfold F13 F13_; simp only [h37, bne_self_eq_false, cond_false, F44_is, hw, Bool.not_false, cond_true]
        exact ⟨r1, t1, r2, e2, r3, [], 1, [], 1, by omega, by omega, by omega, by omega, by simp, by simp, s1, n1, u1, p1, p2, rfl, .inr ⟨by decide, rfl, rfl⟩, .inr ⟨by decide, rfl⟩, .inl ⟨rfl, s2, u2, n2⟩⟩
      | true =>
        obtain ⟨r5, e5, b5, i1, i2⟩ := hours_give d hv (by omega) f t hw h37
        cases hl3 : inB least 1 86400000 with
        | false =>
          have p1 : ∀ (R : Type) (k : List G_Window → Int → Option R), F12 NN d f t least k = k [] 1 := fun R k => by
            unfold F12 F12_; simp only [h37, bne_self_eq_false, cond_false, F44_is, hw, Bool.not_true, F42_is, hl3, Bool.not_false, cond_true]
          exact ⟨r1, t1, r2, e2, r3, [], 1, r5, e5, by omega, by omega, by omega, by omega, by simp, by omega, s1, n1, u1, p1, i1, by unfold err3 lfB; rw [hl3]; rfl, .inl ⟨rfl, i2⟩, .inr ⟨by decide, rfl⟩, .inl ⟨rfl, s2, u2, n2⟩⟩
        | true =>
          obtain ⟨r4, b4, p1, p2⟩ := pauses_give d hv (by omega) f t least hw hl3 h37
          exact ⟨r1, t1, r2, e2, r3, r4, 0, r5, e5, by omega, by omega, by omega, by omega, by omega, by omega, s1, n1, u1, p1, i1, by unfold err3 lfB; rw [hl3]; rfl, .inl ⟨rfl, i2⟩, .inl ⟨rfl, p2⟩, .inl ⟨rfl, s2, u2, n2⟩⟩
    · have hne : (e != 0) = true := by simpa using he
      have p0 : ∀ (R : Type) (k : List G_Row → List Int → Int → Option R), F9 NN d k = k [] [] e := fun R k => by unfold F9 F9_; simp only [h37, hne, cond_true]
      have p1 : ∀ (R : Type) (k : List G_Contact → Int → Option R), F10 NN d fr k = k [] e := fun R k => by unfold F10 F10_; simp only [h37, hne, cond_true]
      have p2 : ∀ (R : Type) (k : List Int → Int → Option R), F11 NN d k = k [] e := fun R k => by unfold F11 F11_; simp only [h37, hne, cond_true]
      have p3 : ∀ (R : Type) (k : List G_Window → Int → Option R), F12 NN d f t least k = k [] e := fun R k => by unfold F12 F12_; simp only [h37, hne, cond_true]
      have p4 : ∀ (R : Type) (k : List Int → Int → Option R), F13 NN d f t k = k [] e := fun R k => by unfold F13 F13_; simp only [h37, hne, cond_true]
      have q1 : err3 e (bif winB f t then 0 else 1) (lfB least) = e := by unfold err3; rw [hne]; rfl
      have q2 : err2 e (bif winB f t then 0 else 1) = e := by unfold err2; rw [hne]; rfl
      rw [q1, q2]
      exact ⟨[], [], [], e, [], [], e, [], e, by simp, by simp, by simp, by simp, by simp, by simp, p0, p1, p2, p3, p4, rfl, .inr ⟨he, rfl, rfl⟩, .inr ⟨he, rfl⟩, .inr ⟨he, rfl, rfl, rfl, rfl, rfl⟩⟩
  obtain ⟨r, tt, n, e2, dd, p, h, o, i, l1, l2, l3, l4, l5, l6, s1, n1, u1, p1, i1, hh, c3, c2, c0⟩ := key
  unfold J3_6
  rw [s1, n1, u1, p1, i1, h14, F16_is]
  have lf := lf_is least
  cases c1 : decide (least < 1) with
  | true =>
    rw [c1] at lf
    rw [cond_true, F17_is, F15_3', F16_is, F15_2']
    rw [cond_true] at lf ⊢
    have h9 : err3 e (bif winB f t then 0 else 1) 1 = h := by rw [hh, ← lf]
    rw [h9]
    exact J13_true fr least e e2 e h i _ d f t r tt n dd p o l1 l2 l3 l4 l5 l6 c3 c2 c0 R k
  | false =>
    rw [c1] at lf
    rw [cond_false, F17_is, F15_3', F16_is, F15_2']
    rw [cond_false] at lf
    have h9 : err3 e (bif winB f t then 0 else 1) (bif decide (least > 86400000) then 1 else 0) = h := by rw [hh, ← lf]
    rw [h9]
    exact J13_true fr least e e2 e h i _ d f t r tt n dd p o l1 l2 l3 l4 l5 l6 c3 c2 c0 R k
end Go.Am
namespace Go.Am
open Go Go.Proofs
theorem F3_true (l : List Int) (R : Type) (k : Bool → Option R) : F3 NN l k = k true := by
  unfold F3 F3_
  obtain ⟨n, n1, n2, en⟩ := F6_gives l 0 0 12 (by omega) (by omega) (by omega) (by omega) (by omega) (by omega)
  obtain ⟨m, rfl⟩ : ∃ m : Nat, n = (m : Int) := ⟨n.toNat, by omega⟩
  have en' : ∀ (R : Type) (k : Int → List Int → Int → Option R), F6 NN l 0 0 12 k = k (m : Int) l 1 := fun R k => en R k
  obtain ⟨d, a1, a2, a3, a4, a5, ed⟩ := F5_gives l 1 m (by omega) (by omega) (by omega)
  obtain ⟨fr, hfr, ef⟩ := F7_gives l a1 [1, 5, 99996, 99999, 0] (by omega) (by omega) (by simp) (by simp)
  obtain ⟨le, hle, el⟩ := F7_gives l (a1 + 1) [1, 10, 1000, 100000, 0, 86400001] (by omega) (by omega) (by simp) (by simp)
  obtain ⟨wf, hwf, ew⟩ := F7_gives l (a1 + 1 + 1) [0, 30, 40000, -1] (by omega) (by omega) (by simp) (by simp)
  obtain ⟨wt, hwt, et⟩ := F7_gives l (a1 + 1 + 1 + 1) [0, 100, 3600000, 9000000, 345686400000, 345686400001] (by omega) (by omega) (by simp) (by simp)
  obtain ⟨b, eb⟩ := F8_gives l (a1 + 1 + 1 + 1 + 1) 4 (by omega) (by omega) (by omega)
  have hfr' : 0 ≤ fr ∧ fr ≤ 99999 := by simp only [List.mem_cons, List.not_mem_nil, or_false] at hfr; omega
  rw [en', ed, ef, el, ew, et, eb]
  cases b with
  | false =>
    rw [cond_false]
    exact J6_true fr le d wf wt hfr'.1 hfr'.2 a5 (by omega) R k
  | true =>
    obtain ⟨x, hx, ex⟩ := F7_gives l (a1 + 1 + 1 + 1 + 1 + 1) [1000, 1001] (by omega) (by omega) (by simp) (by simp)
    obtain ⟨y, hy, ey⟩ := F7_gives l (a1 + 1 + 1 + 1 + 1 + 1 + 1) [0, 1, -1] (by omega) (by omega) (by simp) (by simp)
    rw [cond_true, ex, ey]
    exact J6_true fr le d wf _ hfr'.1 hfr'.2 a5 (by omega) R k
end Go.Am
