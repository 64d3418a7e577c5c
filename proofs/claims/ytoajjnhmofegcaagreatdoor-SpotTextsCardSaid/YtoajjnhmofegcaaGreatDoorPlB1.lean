/- The plain law, in Lean alone: B1, B2, B3, B4, B5, B8, B9. No condition: lemmas for the claim. -/
import Derived.Test.YtoajjnhmofegcaaGreatDoorAmPrint
import Derived.KernelRfl
set_option linter.unusedVariables false
set_option linter.unusedSimpArgs false
set_option maxRecDepth 100000
namespace Go.Am
open Go
theorem w64_eq {x : Int} (h1 : -9223372036854775808 ≤ x) (h2 : x ≤ 9223372036854775807) : w64 x = x := by
 unfold w64 IntKind.wrap
 simp [IntKind.bits, IntKind.signed]
 omega
theorem w64_succ {i : Nat} (h : i < 4611686018427387904) : w64 ((i : Int) + 1) = ((i + 1 : Nat) : Int) := by
 rw [w64_eq (by omega) (by omega)]; omega
theorem w64_pred {i : Nat} (h : i < 4611686018427387904) (h0 : 0 < i) : w64 ((i : Int) - 1) = ((i - 1 : Nat) : Int) := by
 rw [w64_eq (by omega) (by omega)]; omega
theorem at_nat {α : Type} {l : List α} {i : Nat} {x : α} (h : l[i]? = some x) {R : Type} (k : α → Option R) : at_ l (i : Int) k = k x := by
 unfold at_; rw [Int.toNat_natCast, h]
theorem at_int {α : Type} {l : List α} {i : Int} {x : α} (h : l[i.toNat]? = some x) {R : Type} (k : α → Option R) : at_ l i k = k x := by
 unfold at_; rw [h]
theorem get_nat {α : Type} {l : List α} {i : Nat} {x : α} (h : l[i]? = some x) {R : Type} (k : α → Option R) : get_ l (i : Int) k = k x := by
 unfold get_; rw [at_nat h]; simp
theorem inr_nat {α : Type} {l : List α} {i : Nat} (h : i < l.length) {R : Type} (k : Option R) : inr l (i : Int) k = k := by
 unfold inr; rw [decide_eq_true (show 0 ≤ (i : Int) by omega), decide_eq_true (show (i : Int) < (l.length : Int) by omega)]; rfl
theorem set_nat {α : Type} {l : List α} {i : Nat} {x : α} : set_ l (i : Int) x = l.set i x := by unfold set_; rw [Int.toNat_natCast]
theorem drop_cons {α : Type} {l : List α} {i : Nat} {x : α} {xs : List α} (h : l.drop i = x :: xs) : l[i]? = some x ∧ i < l.length ∧ l.drop (i + 1) = xs ∧ l.length = i + 1 + xs.length := by
 have h1 : l[i]? = some x := by
  have := congrArg (fun t => t[0]?) h
  simpa [List.getElem?_drop] using this
 have h2 : i < l.length := by
  rcases Nat.lt_or_ge i l.length with h2 | h2
  ·exact h2
  ·rw [List.getElem?_eq_none h2] at h1; cases h1
 have h3 := congrArg List.length h
 simp at h3
 refine ⟨h1, h2, ?_, by omega⟩
 rw [← List.drop_drop, h]; rfl
theorem drop_nil {α : Type} {l : List α} {i : Nat} (h : l.drop i = []) : l.length ≤ i := by
 have := congrArg List.length h
 simp at this; omega
theorem lt_drop {α : Type} {l : List α} {i : Nat} {x : α} {xs : List α} (h : l.drop i = x :: xs) : decide ((i : Int) < (l.length : Int)) = true := by
 have := (drop_cons h).2.1; exact decide_eq_true (by omega)
theorem ge_drop {α : Type} {l : List α} {i : Nat} (h : l.drop i = []) : decide ((i : Int) < (l.length : Int)) = false := by
 have := drop_nil h; exact decide_eq_false (by omega)
theorem get_drop {α : Type} {l : List α} {i : Nat} {x : α} {xs : List α} (h : l.drop i = x :: xs) {R : Type} (k : α → Option R) : get_ l (i : Int) k = k x := get_nat (drop_cons h).1 k
theorem at_drop {α : Type} {l : List α} {i : Nat} {x : α} {xs : List α} (h : l.drop i = x :: xs) {R : Type} (k : α → Option R) : at_ l (i : Int) k = k x := at_nat (drop_cons h).1 k
theorem inr_drop {α : Type} {l : List α} {i : Nat} {x : α} {xs : List α} (h : l.drop i = x :: xs) {R : Type} (k : Option R) : inr l (i : Int) k = k := inr_nat (drop_cons h).2.1 k
theorem prev_drop {α : Type} {l : List α} {i : Nat} {p : α} {xs : List α} (h : l.drop (i - 1) = p :: xs) (h0 : 0 < i) (hl : l.length < 4611686018427387904) {R : Type} (k : α → Option R) : get_ l (w64 ((i : Int) - 1)) k = k p := by
 have := (drop_cons h).2.1
 rw [w64_pred (by omega) h0]; exact get_drop h k
theorem mem_drop {α : Type} {l : List α} {i : Nat} {x : α} {xs : List α} (h : l.drop i = x :: xs) : x ∈ l := List.mem_of_getElem? (drop_cons h).1
theorem sub_drop {α : Type} {l : List α} {i : Nat} {xs : List α} (h : l.drop i = xs) : ∀ x ∈ xs, x ∈ l := by
 subst h; exact fun x hx => List.mem_of_mem_drop hx
end Go.Am
set_option linter.unusedVariables false
set_option linter.unusedSimpArgs false
set_option maxRecDepth 100000
namespace Go.Am
open Go
def sEqual_L4 {α : Type} (ne : α → α → Bool) : Nat → List α → List α → Int → Int → {R : Type} → (Bool → Option R) → Option R → Option R
 | 0, _, _, _, _, _, _, _ => none
 | n + 1, v3, v4, v5, v6, _, e0, e1 => (bif (decide (v6 < v5)) then (get_ v3 v6 fun x9 => (get_ v4 v6 fun x10 => (bif (ne x9 x10) then e0 false else sEqual_L4 ne n v3 v4 v5 (w64 (v6 + 1)) e0 e1))) else e1)
def sEqual {α : Type} (N : Nat) (ne : α → α → Bool) (a b : List α) {R : Type} (k0 : Bool → Option R) : Option R :=
 (bif ((a.length : Int) != (b.length : Int)) then k0 false else (sEqual_L4 ne N a b (a.length : Int) 0 (fun e11 => k0 e11) (k0 true)))
theorem sEqual_loop {α : Type} (ne : α → α → Bool) (l : List α) (hl : l.length < 4611686018427387904) (hne : ∀ x, ne x x = false) : ∀ (xs : List α) (n i : Nat), l.drop i = xs → xs.length < n → ∀ (R : Type) (e0 : Bool → Option R) (e1 : Option R), sEqual_L4 ne n l l (l.length : Int) (i : Int) e0 e1 = e1
 | _, 0, _, _, h, _, _, _ => by omega
 | [], n + 1, i, h, _, _, _, _ => by rw [sEqual_L4, ge_drop h]; rfl
 | x :: xs, n + 1, i, h, hn, R, e0, e1 => by
  have h' := drop_cons h
  rw [sEqual_L4, lt_drop h]
  simp only [cond_true, get_drop h, hne, cond_false]
  rw [w64_succ (by omega)]
  exact sEqual_loop ne l hl hne xs n (i + 1) h'.2.2.1 (by simp at hn; omega) R e0 e1
theorem sEqual_same {α : Type} {N : Nat} {ne : α → α → Bool} {l : List α} (hN : l.length < N) (hN2 : N ≤ 4611686018427387904) (hne : ∀ x, ne x x = false) {R : Type} (k : Bool → Option R) : sEqual N ne l l k = k true := by
 unfold sEqual
 have h := sEqual_loop ne l (by omega) hne l N 0 rfl hN R (fun e11 => k e11) (k true)
 simp only [bne_self_eq_false, cond_false]
 exact h
def idxI {α : Type} (p : α → Bool) (l : List α) : Int := match l.findIdx? p with | some i => (i : Int) | none => -1
theorem idxI_ge {α : Type} (p : α → Bool) (l : List α) : decide (idxI p l ≥ 0) = l.any p := by
 unfold idxI
 cases h : l.findIdx? p with
 | some i =>
  have := List.findIdx?_isSome (xs := l) (p := p)
  rw [h] at this
  show decide ((i : Int) ≥ 0) = _
  rw [decide_eq_true (by omega)]
  simpa using this
 | none =>
  have := List.findIdx?_isSome (xs := l) (p := p)
  rw [h] at this
  simp at this ⊢
  intro x hx
  exact this x hx
def sIndexV_L2 {α β : Type} (eq : β → α → Bool) : Nat → List α → β → Int → Int → {R : Type} → (Int → Option R) → Option R → Option R
 | 0, _, _, _, _, _, _, _ => none
 | n + 1, v3, v6, v4, v5, _, e0, e1 => (bif (decide (v5 < v4)) then (get_ v3 v5 fun x8 => (bif (eq v6 x8) then e0 v5 else sIndexV_L2 eq n v3 v6 v4 (w64 (v5 + 1)) e0 e1)) else e1)
theorem sIndexV_loop {α β : Type} (eq : β → α → Bool) (v : β) (l : List α) (hl : l.length < 4611686018427387904) : ∀ (xs : List α) (n i : Nat), l.drop i = xs → xs.length < n → ∀ (R : Type) (e0 : Int → Option R) (e1 : Option R),
  sIndexV_L2 eq n l v (l.length : Int) (i : Int) e0 e1 = match xs.findIdx? (eq v) with | some j => e0 ((i + j : Nat) : Int) | none => e1
 | _, 0, _, _, h, _, _, _ => by omega
 | [], n + 1, i, h, _, _, _, _ => by rw [sIndexV_L2, ge_drop h]; rfl
 | x :: xs, n + 1, i, h, hn, R, e0, e1 => by
  have h' := drop_cons h
  rw [sIndexV_L2, lt_drop h]
  simp only [cond_true, get_drop h, List.findIdx?_cons]
  cases hq : eq v x with
  | true => simp
  | false =>
   simp only [cond_false]
   rw [w64_succ (by omega), sIndexV_loop eq v l hl xs n (i + 1) h'.2.2.1 (by simp at hn; omega) R e0 e1]
   cases xs.findIdx? (eq v) with
   | none => rfl
   | some j => simp; congr 1; omega
def sIndexV {α β : Type} (N : Nat) (eq : β → α → Bool) (a1 : List α) (a2 : β) {R : Type} (k0 : Int → Option R) : Option R := (sIndexV_L2 eq N a1 a2 (a1.length : Int) 0 (fun e9 => k0 e9) (k0 (-1)))
theorem sIndexV_is {α β : Type} {N : Nat} (eq : β → α → Bool) (v : β) (l : List α) (hN : l.length < N) (hN2 : N ≤ 4611686018427387904) {R : Type} (k : Int → Option R) :
  sIndexV N eq l v k = k (idxI (eq v) l) := by
 unfold sIndexV
 have h := sIndexV_loop eq v l (by omega) l N 0 rfl hN R (fun e9 => k e9) (k (-1))
 refine h.trans ?_
 unfold idxI
 cases l.findIdx? (eq v) with
 | none => rfl
 | some j => simp
def sIndexF_L2 {α σ : Type} (f : α → σ → {R : Type} → (Bool → σ → Option R) → Option R) : Nat → List α → Int → Int → σ → {R : Type} → (Int → σ → Option R) → (σ → Option R) → Option R
 | 0, _, _, _, _, _, _, _ => none
 | n + 1, v3, v4, v5, v6, _, e0, e1 => (bif (decide (v5 < v4)) then (get_ v3 v5 fun x10 => (f x10 v6 (fun r11 r12 => (bif r11 then e0 v5 r12 else sIndexF_L2 f n v3 v4 (w64 (v5 + 1)) r12 e0 e1)))) else e1 v6)
theorem sIndexF_loop {α σ : Type} (f : α → σ → {R : Type} → (Bool → σ → Option R) → Option R) (p : α → Bool) (s : σ) (l : List α) (hf : ∀ x ∈ l, ∀ (R : Type) (k : Bool → σ → Option R), f x s k = k (p x) s) (hl : l.length < 4611686018427387904) :
  ∀ (xs : List α) (n i : Nat), l.drop i = xs → xs.length < n → ∀ (R : Type) (e0 : Int → σ → Option R) (e1 : σ → Option R),
  sIndexF_L2 f n l (l.length : Int) (i : Int) s e0 e1 = match xs.findIdx? p with | some j => e0 ((i + j : Nat) : Int) s | none => e1 s
 | _, 0, _, _, h, _, _, _ => by omega
 | [], n + 1, i, h, _, _, _, _ => by rw [sIndexF_L2, ge_drop h]; rfl
 | x :: xs, n + 1, i, h, hn, R, e0, e1 => by
  have h' := drop_cons h
  rw [sIndexF_L2, lt_drop h]
  simp only [cond_true, get_drop h, List.findIdx?_cons, hf x (mem_drop h)]
  cases hq : p x with
  | true => simp
  | false =>
   simp only [cond_false]
   rw [w64_succ (by omega), sIndexF_loop f p s l hf hl xs n (i + 1) h'.2.2.1 (by simp at hn; omega) R e0 e1]
   cases xs.findIdx? p with
   | none => rfl
   | some j => simp; congr 1; omega
def sIndexF {α σ : Type} (N : Nat) (f : α → σ → {R : Type} → (Bool → σ → Option R) → Option R) (a1 : List α) (a2 : σ) {R : Type} (k0 : Int → σ → Option R) : Option R := (sIndexF_L2 f N a1 (a1.length : Int) 0 a2 (fun e9 e10 => k0 e9 e10) (fun e => k0 (-1) e))
theorem sIndexF_is {α σ : Type} {N : Nat} (f : α → σ → {R : Type} → (Bool → σ → Option R) → Option R) (p : α → Bool) (s : σ) (l : List α) (hf : ∀ x ∈ l, ∀ (R : Type) (k : Bool → σ → Option R), f x s k = k (p x) s) (hN : l.length < N) (hN2 : N ≤ 4611686018427387904) {R : Type} (k : Int → σ → Option R) :
  sIndexF N f l s k = k (idxI p l) s := by
 unfold sIndexF
 have h := sIndexF_loop f p s l hf (by omega) l N 0 rfl hN R (fun e9 e10 => k e9 e10) (fun e => k (-1) e)
 refine h.trans ?_
 unfold idxI
 cases l.findIdx? p with
 | none => rfl
 | some j => simp
def sIns_L4 {α : Type} (cmp : CmpT α) : Nat → Int → Int → Int → Int → List α → {R : Type} → (Int → Int → Int → List α → Option R) → Option R
 | 0, _, _, _, _, _, _, _ => none
 | n + 1, v31, v32, v33, v34, v35, _, e0 => (bif (decide (v34 > v31)) then (inr v35 v34 (at_ v35 v34 fun x43 => (inr v35 (w64 (v34 - 1)) (at_ v35 (w64 (v34 - 1)) fun x44 => (cmp x43 x44 (fun r45 => (bif (decide (r45 < 0)) then (inr v35 (w64 (v34 - 1)) (at_ v35 (w64 (v34 - 1)) fun x46 => (inr v35 v34 (at_ v35 v34 fun x47 => (inr v35 v34 (at_ v35 v34 fun x48 => (inr (set_ v35 v34 x46) (w64 (v34 - 1)) (at_ (set_ v35 v34 x46) (w64 (v34 - 1)) fun x49 => sIns_L4 cmp n v31 v32 v33 (w64 (v34 - 1)) (set_ (set_ v35 v34 x46) (w64 (v34 - 1)) x47) e0)))))))) else e0 v31 v32 v33 v35))))))) else e0 v31 v32 v33 v35)
def sIns_L1 {α : Type} (N : Nat) (cmp : CmpT α) : Nat → Int → Int → Int → List α → {R : Type} → (List α → Option R) → Option R
 | 0, _, _, _, _, _, _ => none
 | n + 1, v4, v5, v6, v7, _, e0 => (bif (decide (v6 < v5)) then (sIns_L4 cmp N v4 v5 v6 v6 v7 (fun e50 e51 e52 e53 => sIns_L1 N cmp n e50 e51 (w64 (e52 + 1)) e53 e0)) else e0 v7)
def sIns {α : Type} (N : Nat) (cmp : CmpT α) (a1 : List α) (a2 a3 : Int) {R : Type} (k0 : List α → Option R) : Option R :=
 (sIns_L1 N cmp N a2 a3 (w64 (a2 + 1)) a1 (fun e54 => k0 e54))
def insRev {α : Type} (c : α → α → Int) (x : α) : List α → List α
 | [] => [x]
 | y :: ys => if c x y < 0 then y :: insRev c x ys else x :: y :: ys
def sortRev {α : Type} (c : α → α → Int) : List α → List α → List α
 | acc, [] => acc
 | acc, x :: xs => sortRev c (insRev c x acc) xs
def sortI {α : Type} (c : α → α → Int) (l : List α) : List α := (sortRev c [] l).reverse
theorem insRev_perm {α : Type} (c : α → α → Int) (x : α) : ∀ l : List α, (insRev c x l).Perm (x :: l)
 | [] => .refl _
 | y :: ys => by
  unfold insRev
  split
  ·exact ((insRev_perm c x ys).cons y).trans (List.Perm.swap x y ys)
  ·exact .refl _
theorem sortRev_perm {α : Type} (c : α → α → Int) : ∀ (l acc : List α), (sortRev c acc l).Perm (acc ++ l)
 | [], acc => by simp [sortRev]
 | x :: xs, acc => by
  unfold sortRev
  refine (sortRev_perm c xs _).trans ?_
  refine ((insRev_perm c x acc).append_right xs).trans ?_
  exact (List.perm_middle (l₁ := acc) (l₂ := xs) (a := x)).symm
theorem sortI_perm {α : Type} (c : α → α → Int) (l : List α) : (sortI c l).Perm l := by
 unfold sortI
 exact (List.reverse_perm _).trans (by simpa using sortRev_perm c l [])
theorem sortI_length {α : Type} (c : α → α → Int) (l : List α) : (sortI c l).length = l.length := (sortI_perm c l).length_eq
theorem sortI_mem {α : Type} {c : α → α → Int} {l : List α} {x : α} : x ∈ sortI c l ↔ x ∈ l := (sortI_perm c l).mem_iff
theorem set_mid {α : Type} (pre : List α) (a b : α) (post : List α) : (pre ++ a :: post).set pre.length b = pre ++ b :: post := by
 induction pre with
 | nil => rfl
 | cons x xs ih => simp [ih]
theorem get_mid {α : Type} (pre : List α) (a : α) (post : List α) : (pre ++ a :: post)[pre.length]? = some a := by simp
theorem sIns_inner {α : Type} (cmp : CmpT α) (c : α → α → Int) (S : α → Prop) (hc : ∀ x y, S x → S y → ∀ (R : Type) (k : Int → Option R), cmp x y k = k (c x y)) (x : α) (hx : S x) (b i : Int) :
  ∀ (rs post : List α) (n : Nat), (∀ y ∈ rs, S y) → rs.length < n → rs.length + post.length < 4611686018427387000 → ∀ (R : Type) (e0 : Int → Int → Int → List α → Option R),
  sIns_L4 cmp n 0 b i (rs.length : Int) (rs.reverse ++ x :: post) e0 = e0 0 b i ((insRev c x rs).reverse ++ post)
 | _, _, 0, _, h, _, _, _ => by omega
 | [], post, n + 1, _, _, _, R, e0 => by rw [sIns_L4]; simp [insRev]
 | y :: ys, post, n + 1, hS, hn, hl, R, e0 => by
  have hy : S y := hS y (by simp)
  have e1 : w64 (((y :: ys).length : Nat) - 1 : Int) = (ys.length : Int) := by
   rw [w64_eq (by omega) (by simp at hl ⊢; omega)]; simp
  have hd : (y :: ys).reverse ++ x :: post = ys.reverse ++ y :: x :: post := by simp
  have g1 : (ys.reverse ++ y :: x :: post)[ys.length]? = some y := by
   have := get_mid ys.reverse y (x :: post); rwa [List.length_reverse] at this
  have hd2 : ys.reverse ++ y :: x :: post = (ys.reverse ++ [y]) ++ x :: post := by simp
  have g2 : (ys.reverse ++ y :: x :: post)[ys.length + 1]? = some x := by
   have := get_mid (ys.reverse ++ [y]) x post
   rw [← hd2] at this; rwa [List.length_append, List.length_reverse] at this
  have len1 : (ys.reverse ++ y :: x :: post).length = ys.length + 2 + post.length := by simp; omega
  have s1 : (ys.reverse ++ y :: x :: post).set (ys.length + 1) y = ys.reverse ++ y :: y :: post := by
   have := set_mid (ys.reverse ++ [y]) x y post
   rw [← hd2] at this
   rw [List.length_append, List.length_reverse] at this
   refine Eq.trans this ?_
   simp
  have s2 : (ys.reverse ++ y :: y :: post).set ys.length x = ys.reverse ++ x :: y :: post := by
   have := set_mid ys.reverse y x (y :: post); rwa [List.length_reverse] at this
  have g3 : (ys.reverse ++ y :: y :: post)[ys.length]? = some y := by
   have := get_mid ys.reverse y (y :: post); rwa [List.length_reverse] at this
  have c1 : (((y :: ys).length : Nat) : Int) = ((ys.length + 1 : Nat) : Int) := by simp
  rw [sIns_L4]
  rw [decide_eq_true (show (((y :: ys).length : Nat) : Int) > 0 by simp)]
  simp only [cond_true, hd, e1]
  rw [c1]
  rw [inr_nat (by omega), at_nat g2, inr_nat (by omega), at_nat g1, hc x y hx hy]
  unfold insRev
  by_cases hlt : c x y < 0
  ·rw [decide_eq_true hlt, if_pos hlt]
   simp only [cond_true]
   rw [inr_nat (by omega), at_nat g1, inr_nat (by omega), at_nat g2, inr_nat (by omega), at_nat g2, set_nat, s1, inr_nat (by simp), at_nat g3, set_nat, s2]
   rw [sIns_inner cmp c S hc x hx b i ys (y :: post) n (fun z hz => hS z (by simp [hz])) (by simp at hn; omega) (by simp at hl ⊢; omega) R e0]
   simp
  ·rw [decide_eq_false hlt, if_neg hlt]
   simp
theorem sIns_outer {α : Type} (N : Nat) (cmp : CmpT α) (c : α → α → Int) (S : α → Prop) (hc : ∀ x y, S x → S y → ∀ (R : Type) (k : Int → Option R), cmp x y k = k (c x y)) (len : Nat) (hlen : len < 4611686018427380000) (hN : len < N) :
  ∀ (rest acc : List α) (n : Nat), (∀ y ∈ acc, S y) → (∀ y ∈ rest, S y) → acc.length + rest.length = len → rest.length < n → ∀ (R : Type) (e0 : List α → Option R),
  sIns_L1 N cmp n 0 (len : Int) (acc.length : Int) (acc.reverse ++ rest) e0 = e0 (sortRev c acc rest).reverse
 | _, _, 0, _, _, _, h, _, _ => by omega
 | [], acc, n + 1, _, _, hl, _, R, e0 => by
  rw [sIns_L1, decide_eq_false (by simp at hl; omega)]
  simp [sortRev]
 | x :: xs, acc, n + 1, hS, hS2, hl, hn, R, e0 => by
  have hx : S x := hS2 x (by simp)
  have hlx : (insRev c x acc).length = acc.length + 1 := by rw [(insRev_perm c x acc).length_eq]; simp
  rw [sIns_L1, decide_eq_true (by simp at hl; omega)]
  simp only [cond_true]
  rw [sIns_inner cmp c S hc x hx (len : Int) (acc.length : Int) acc xs N hS (by simp at hl; omega) (by simp at hl; omega), w64_succ (by omega), ← hlx]
  rw [sIns_outer N cmp c S hc len hlen hN xs (insRev c x acc) n (fun y hy => by
   rcases List.mem_cons.1 ((insRev_perm c x acc).mem_iff.1 hy) with rfl | hy
   ·exact hx
   ·exact hS y hy) (fun y hy => hS2 y (by simp [hy])) (by simp at hl ⊢; omega) (by simp at hn; omega) R e0]
  rfl
theorem sIns_is {α : Type} {N : Nat} {cmp : CmpT α} (c : α → α → Int) (S : α → Prop) (hc : ∀ x y, S x → S y → ∀ (R : Type) (k : Int → Option R), cmp x y k = k (c x y)) (l : List α) (hS : ∀ y ∈ l, S y) (hN : l.length + 1 < N) (hN2 : N ≤ 4611686018427380000) {R : Type} (k : List α → Option R) :
  sIns N cmp l 0 (l.length : Int) k = k (sortI c l) := by
 unfold sIns
 rw [w64_eq (by omega) (by omega)]
 cases l with
 | nil =>
  obtain ⟨m, rfl⟩ : ∃ m, N = m + 1 := ⟨N - 1, by omega⟩
  rw [sIns_L1]; simp [sortI, sortRev]
 | cons x xs =>
  have h := sIns_outer N cmp c S hc (x :: xs).length (by omega) (by omega) xs [x] N (by simpa using hS x (by simp)) (fun y hy => hS y (by simp [hy])) (by simp; omega) (by simp at hN; omega) R (fun e54 => k e54)
  simp only [List.length_singleton, List.reverse_singleton, List.singleton_append] at h
  exact h
theorem sIns_end {α : Type} {N : Nat} {cmp : CmpT α} (l : List α) (a : Int) (h1 : -1000000 ≤ a) (h2 : a ≤ 1000000000) (hN : 0 < N) {R : Type} (k : List α → Option R) : sIns N cmp l a a k = k l := by
 unfold sIns
 obtain ⟨m, rfl⟩ : ∃ m, N = m + 1 := ⟨N - 1, by omega⟩
 rw [w64_eq (by omega) (by omega), sIns_L1, decide_eq_false (by omega)]
 rfl
end Go.Am
set_option linter.unusedVariables false
set_option linter.unusedSimpArgs false
set_option maxRecDepth 100000
namespace Go.Am
open Go
def sSta_L2 {α : Type} (ins : List α → Int → Int → {R : Type} → (List α → Option R) → Option R) : Nat → Int → Int → Int → Int → List α → {R : Type} → (Int → Int → Int → List α → Option R) → Option R
 | 0, _, _, _, _, _, _, _ => none
 | n + 1, v3, v4, v5, v6, v7, _, e0 => (bif (decide (v6 ≤ v3)) then (ins v7 v5 v6 (fun r9 => sSta_L2 ins n v3 v4 v6 (w64 (v6 + v4)) r9 e0)) else e0 v3 v4 v5 v7)
theorem sSta_L2_is {α : Type} {N M : Nat} {cmp : CmpT α} (c : α → α → Int) (S : α → Prop) (hc : ∀ x y, S x → S y → ∀ (R : Type) (k : Int → Option R), cmp x y k = k (c x y)) (l : List α) (hS : ∀ y ∈ l, S y) (hl : l.length ≤ 20) (hN : 1000 ≤ N) (hN2 : N ≤ 4611686018427380000) {R : Type} (e0 : Int → Int → Int → List α → Option R)
  (ins : List α → Int → Int → {R : Type} → (List α → Option R) → Option R) (hi : ∀ l a b (R : Type) (k : List α → Option R), ins l a b k = sIns N cmp l a b k) :
  (sSta_L2 ins (M + 3) (l.length : Int) 20 0 20 l e0 = if l.length = 20 then e0 (l.length : Int) 20 20 (sortI c l) else e0 (l.length : Int) 20 0 l) := by
 rw [sSta_L2]
 by_cases h : l.length = 20
 ·rw [decide_eq_true (by omega), if_pos h]
  simp only [cond_true, hi]
  have h20 : (20 : Int) = (l.length : Int) := by omega
  have e1 := sIns_is (N := N) c S hc l hS (by omega) hN2 (fun r9 => sSta_L2 ins (M + 2) (l.length : Int) 20 20 (w64 (20 + 20)) r9 e0)
  rw [← h20] at e1
  rw [← h20, e1, sSta_L2, w64_eq (by omega) (by omega), decide_eq_false (by omega)]
  rfl
 ·rw [decide_eq_false (by omega), if_neg h]
  rfl
def sSta_L9 {α : Type} : Nat → Int → Int → Int → Int → List α → {R : Type} → (Int → Int → Int → List α → Option R) → Option R
 | 0, _, _, _, _, _, _, _ => none
 | n + 1, v30, v31, v32, v33, v34, _, e0 => (bif (decide (v33 ≤ v30)) then none else e0 v30 v31 v32 v34)
def sSta_L7 {α : Type} (N : Nat) : Nat → Int → Int → List α → {R : Type} → (List α → Option R) → Option R
 | 0, _, _, _, _, _ => none
 | n + 1, v15, v16, v17, _, e0 => (bif (decide (v16 < v15)) then (sSta_L9 N v15 v16 0 (w64 (2 * v16)) v17 (fun e37 e38 e39 e40 => (bif (decide ((w64 (e39 + e38)) < e37)) then none else sSta_L7 N n e37 (w64 (e38 * 2)) e40 e0))) else e0 v17)
def sSta {α : Type} (N : Nat) (ins : List α → Int → Int → {R : Type} → (List α → Option R) → Option R) (a1 : List α) (a2 : Int) {R : Type} (k0 : List α → Option R) : Option R :=
 (sSta_L2 ins N a2 20 0 20 a1 (fun e10 e11 e12 e13 => (ins e13 e12 e10 (fun r14 => (sSta_L7 N N e10 e11 r14 (fun e42 => k0 e42))))))
theorem sSta_is {α : Type} {N : Nat} {cmp : CmpT α} (c : α → α → Int) (S : α → Prop) (hc : ∀ x y, S x → S y → ∀ (R : Type) (k : Int → Option R), cmp x y k = k (c x y)) (l : List α) (hS : ∀ y ∈ l, S y) (hl : l.length ≤ 20) (hN : 1000 ≤ N) (hN2 : N ≤ 4611686018427380000) (ins : List α → Int → Int → {R : Type} → (List α → Option R) → Option R) (hi : ∀ l a b (R : Type) (k : List α → Option R), ins l a b k = sIns N cmp l a b k) {R : Type} (k : List α → Option R) :
  sSta N ins l (l.length : Int) k = k (sortI c l) := by
 obtain ⟨m, rfl⟩ : ∃ m, N = m + 3 := ⟨N - 3, by omega⟩
 unfold sSta
 rw [sSta_L2_is (N := m + 3) c S hc l hS hl hN hN2 _ ins hi]
 simp only [hi]
 have h7 : ∀ r : List α, sSta_L7 (m + 3) (m + 3) (l.length : Int) 20 r k = k r := fun r => by
  rw [sSta_L7, decide_eq_false (by omega)]; rfl
 split
 ·rename_i h
  have h20 : (l.length : Int) = 20 := by omega
  rw [h20] at h7 ⊢
  rw [sIns_end _ _ (by omega) (by omega) (by omega)]
  exact h7 _
 ·rw [sIns_is c S hc l hS (by omega) hN2]
  exact h7 _
def dedupFrom {α : Type} (eq : α → α → Bool) : α → List α → List α
 | _, [] => []
 | p, y :: ys => if eq y p then dedupFrom eq y ys else y :: dedupFrom eq y ys
def compactP {α : Type} (eq : α → α → Bool) : List α → List α
 | [] => []
 | x :: xs => x :: dedupFrom eq x xs
theorem dedupFrom_sub {α : Type} (eq : α → α → Bool) : ∀ (l : List α) (p x : α), x ∈ dedupFrom eq p l → x ∈ l
 | [], _, _, h => by cases h
 | y :: ys, p, x, h => by
  unfold dedupFrom at h
  split at h
  ·exact List.mem_cons_of_mem _ (dedupFrom_sub eq ys y x h)
  ·rcases List.mem_cons.1 h with rfl | h
   ·exact List.mem_cons_self
   ·exact List.mem_cons_of_mem _ (dedupFrom_sub eq ys y x h)
theorem compactP_sub {α : Type} {eq : α → α → Bool} {l : List α} {x : α} (h : x ∈ compactP eq l) : x ∈ l := by
 cases l with
 | nil => cases h
 | cons y ys =>
  rcases List.mem_cons.1 h with rfl | h
  ·exact List.mem_cons_self
  ·exact List.mem_cons_of_mem _ (dedupFrom_sub eq ys y x h)
theorem dedupFrom_len {α : Type} (eq : α → α → Bool) : ∀ (l : List α) (p : α), (dedupFrom eq p l).length ≤ l.length
 | [], _ => Nat.le_refl _
 | y :: ys, p => by
  unfold dedupFrom
  have := dedupFrom_len eq ys y
  split <;> simp <;> omega
theorem compactP_len {α : Type} (eq : α → α → Bool) (l : List α) : (compactP eq l).length ≤ l.length := by
 cases l with
 | nil => exact Nat.le_refl _
 | cons y ys => have := dedupFrom_len eq ys y; simp [compactP]; omega
def EqT (α : Type) : Type 1 := α → α → {R : Type} → (Bool → Option R) → Option R
def sComp_L9 {α : Type} (eq : EqT α) : Nat → Int → Int → Int → Int → List α → {R : Type} → (Int → List α → Option R) → Option R
 | 0, _, _, _, _, _, _, _ => none
 | n + 1, v27, v28, v29, v30, v31, _, e0 => (bif (decide (v30 < ((v29 - v28).toNat : Int))) then (bif (decide (0 ≤ v30) && (decide (v30 < v29 - v28) && decide (v28 + v30 < (v31.length : Int)))) then (at_ v31 (v28 + v30) fun x37 => (bif (decide (0 ≤ (w64 (v30 - 1))) && (decide ((w64 (v30 - 1)) < v29 - v28) && decide (v28 + (w64 (v30 - 1)) < (v31.length : Int)))) then (at_ v31 (v28 + (w64 (v30 - 1))) fun x38 => (eq x37 x38 (fun r39 => (bif (!r39) then (bif (decide (0 ≤ v30) && (decide (v30 < v29 - v28) && decide (v28 + v30 < (v31.length : Int)))) then (at_ v31 (v28 + v30) fun x40 => (inr v31 v27 (at_ v31 v27 fun x41 => sComp_L9 eq n (w64 (v27 + 1)) v28 v29 (w64 (v30 + 1)) (set_ v31 v27 x40) e0))) else none) else sComp_L9 eq n v27 v28 v29 (w64 (v30 + 1)) v31 e0)))) else none)) else none) else e0 v27 v31)
def sCut {α : Type} (z : α) (e36 : Int) (e37 : List α) {R : Type} (e0 : List α → Option R) : Option R := (bif (decide (0 < e37.length) && (decide (0 ≤ e36) && decide (e36 ≤ (e37.length : Int)))) then (bif (decide (0 ≤ e36) && (decide (e36 ≤ (e37.length : Int)) && decide (((e37.length : Int)).toNat ≤ e37.length))) then (bif (decide (0 ≤ e36) && decide (e36 ≤ ((e37.take (e36).toNat ++ (List.replicate ((e37.length : Int) - e36).toNat z ++ e37.drop ((e37.length : Int)).toNat)).length : Int))) then e0 ((e37.take (e36).toNat ++ (List.replicate ((e37.length : Int) - e36).toNat z ++ e37.drop ((e37.length : Int)).toNat)).take (e36 : Int).toNat) else none) else none) else none)
theorem sCut_is {α : Type} {z : α} {i : Nat} {l : List α} (h0 : 0 < l.length) (h : i ≤ l.length) {R : Type} (e0 : List α → Option R) : sCut z (i : Int) l e0 = e0 (l.take i) := by
 unfold sCut
 have d1 : (decide (0 < l.length) && (decide (0 ≤ (i : Int)) && decide ((i : Int) ≤ (l.length : Int)))) = true := by simp; omega
 have d2 : (decide (0 ≤ (i : Int)) && (decide ((i : Int) ≤ (l.length : Int)) && decide (((l.length : Int)).toNat ≤ l.length))) = true := by simp; omega
 have d3 : (decide (0 ≤ (i : Int)) && decide ((i : Int) ≤ ((l.take ((i : Int)).toNat ++ (List.replicate ((l.length : Int) - (i : Int)).toNat z ++ l.drop ((l.length : Int)).toNat)).length : Int))) = true := by
  simp; omega
 rw [d1, d2, d3]
 simp only [cond_true]
 congr 1
 rw [Int.toNat_natCast, List.take_append_of_le_length (by simp; omega), List.take_take]
 simp
def sComp_L4 {α : Type} (N : Nat) (z : α) (eq : EqT α) : Nat → Int → List α → {R : Type} → (List α → Option R) → (List α → Option R) → Option R
 | 0, _, _, _, _, _ => none
 | n + 1, v2, v3, _, e0, e1 => (bif (decide (v2 < (v3.length : Int))) then (inr v3 v2 (at_ v3 v2 fun x24 => (inr v3 (w64 (v2 - 1)) (at_ v3 (w64 (v2 - 1)) fun x25 => (eq x24 x25 (fun r26 => (bif r26 then (bif (decide (0 < v3.length) && (decide (0 ≤ v2) && decide (v2 ≤ (v3.length : Int)))) then (sComp_L9 eq N v2 v2 (v3.length : Int) 1 v3 (fun e42 e43 => sCut z e42 e43 e0)) else none) else sComp_L4 N z eq n (w64 (v2 + 1)) v3 e0 e1))))))) else e1 v3)
def sComp {α : Type} (N : Nat) (z : α) (eq : EqT α) (a1 : List α) {R : Type} (k0 : List α → Option R) : Option R :=
 (bif (decide ((a1.length : Int) < 2)) then k0 a1 else (sComp_L4 N z eq N 1 a1 (fun e44 => k0 e44) (fun e45 => k0 e45)))
theorem sComp_inner {α : Type} (eq : EqT α) (q : α → α → Bool) (S : α → Prop) (he : ∀ x y, S x → S y → ∀ (R : Type) (k : Bool → Option R), eq x y k = k (q x y)) (i len : Nat) (hlen : len < 4611686018427380000) :
  ∀ (rest : List α) (p : α) (n k j : Nat) (l out : List α), l.length = len → l.drop (j - 1) = p :: rest → i + 1 ≤ j → k + 1 ≤ j → l.take k = out → (∀ y ∈ p :: rest, S y) → rest.length < n →
  ∃ (k' : Nat) (l' : List α), l'.length = len ∧ k' ≤ len ∧ l'.take k' = out ++ dedupFrom q p rest ∧ ∀ (R : Type) (e0 : Int → List α → Option R), sComp_L9 eq n (k : Int) (i : Int) (len : Int) ((j - i : Nat) : Int) l e0 = e0 (k' : Int) l'
 | _, _, 0, _, _, _, _, _, _, _, _, _, _, h => by omega
 | [], p, n + 1, k, j, l, out, h1, h2, h3, h4, h5, h6, h7 => by
  have hd := drop_cons h2
  simp at hd
  refine ⟨k, l, h1, by omega, by simp [dedupFrom, h5], fun R e0 => ?_⟩
  rw [sComp_L9, decide_eq_false (by omega)]; rfl
 | y :: ys, p, n + 1, k, j, l, out, h1, h2, h3, h4, h5, h6, h7 => by
  have hd := drop_cons h2
  have hj : j - 1 + 1 = j := by omega
  rw [hj] at hd
  have hd2 := drop_cons hd.2.2.1
  have hy : S y := h6 y (by simp)
  have hp : S p := h6 p (by simp)
  have hlt : j < l.length := hd2.2.1
  have d1 : decide (((j - i : Nat) : Int) < (((len : Int) - (i : Int)).toNat : Int)) = true := decide_eq_true (by omega)
  have d2 : (decide (0 ≤ ((j - i : Nat) : Int)) && (decide (((j - i : Nat) : Int) < (len : Int) - (i : Int)) && decide ((i : Int) + ((j - i : Nat) : Int) < (l.length : Int)))) = true := by simp; omega
  have e1 : w64 (((j - i : Nat) : Int) - 1) = ((j - i - 1 : Nat) : Int) := by rw [w64_eq (by omega) (by omega)]; omega
  have d3 : (decide (0 ≤ ((j - i - 1 : Nat) : Int)) && (decide (((j - i - 1 : Nat) : Int) < (len : Int) - (i : Int)) && decide ((i : Int) + ((j - i - 1 : Nat) : Int) < (l.length : Int)))) = true := by simp; omega
  have t1 : (i : Int) + ((j - i : Nat) : Int) = (j : Int) := by omega
  have t2 : (i : Int) + ((j - i - 1 : Nat) : Int) = ((j - 1 : Nat) : Int) := by omega
  have e2 : w64 (((j - i : Nat) : Int) + 1) = ((j + 1 - i : Nat) : Int) := by rw [w64_eq (by omega) (by omega)]; omega
  have e3 : w64 ((k : Int) + 1) = ((k + 1 : Nat) : Int) := w64_succ (by omega)
  cases hq : q y p with
  | true =>
   obtain ⟨k', l', a1, a2, a3, a4⟩ := sComp_inner eq q S he i len hlen ys y n k (j + 1) l out h1 (by simpa using hd.2.2.1) (by omega) (by omega) h5 (fun z hz => h6 z (List.mem_cons_of_mem _ hz)) (by simp at h7; omega)
   refine ⟨k', l', a1, a2, by rw [a3]; simp [dedupFrom, hq], fun R e0 => ?_⟩
   rw [sComp_L9, d1]
   simp only [cond_true, d2, e1, d3]
   rw [t1, at_nat hd2.1, t2, at_nat hd.1, he y p hy hp, hq]
   simp only [Bool.not_true, cond_false]
   rw [e2]
   exact a4 R e0
  | false =>
   have hk : k < l.length := by omega
   have gk : l[k]? = some l[k] := List.getElem?_eq_getElem hk
   obtain ⟨k', l', a1, a2, a3, a4⟩ := sComp_inner eq q S he i len hlen ys y n (k + 1) (j + 1) (l.set k y) (out ++ [y]) (by simpa using h1) (by
     show (l.set k y).drop j = y :: ys
     rw [List.drop_set_of_lt (by omega)]; exact hd.2.2.1) (by omega) (by omega) (by
     rw [List.take_add_one, List.getElem?_set_self hk, ← h5]; simp [List.take_set_of_le (Nat.le_refl k)]) (fun z hz => h6 z (List.mem_cons_of_mem _ hz)) (by simp at h7; omega)
   refine ⟨k', l', a1, a2, by rw [a3]; simp [dedupFrom, hq], fun R e0 => ?_⟩
   rw [sComp_L9, d1]
   simp only [cond_true, d2, e1, d3]
   rw [t1, at_nat hd2.1, t2, at_nat hd.1, he y p hy hp, hq]
   simp only [Bool.not_false, cond_true]
   rw [at_nat hd2.1, inr_nat hk, at_nat gk, e2, e3, set_nat]
   exact a4 R e0
theorem sComp_loop {α : Type} (N : Nat) (z : α) (eq : EqT α) (q : α → α → Bool) (S : α → Prop) (he : ∀ x y, S x → S y → ∀ (R : Type) (k : Bool → Option R), eq x y k = k (q x y)) (l : List α) (hl : l.length < 4611686018427380000) (hN : l.length < N) (hS : ∀ y ∈ l, S y) :
  ∀ (rest : List α) (p : α) (n i : Nat), l.drop (i - 1) = p :: rest → 1 ≤ i → rest.length < n → ∀ (R : Type) (k : List α → Option R), sComp_L4 N z eq n (i : Int) l k k = k (l.take i ++ dedupFrom q p rest)
 | _, _, 0, _, _, _, h, _, _ => by omega
 | [], p, n + 1, i, h, hi, _, R, k => by
  have hd := drop_cons h
  simp at hd
  rw [sComp_L4, decide_eq_false (by omega)]
  simp only [cond_false]
  congr 1
  rw [List.take_of_length_le (by omega)]; simp [dedupFrom]
 | y :: ys, p, n + 1, i, h, hi, hn, R, k => by
  have hd := drop_cons h
  have hj : i - 1 + 1 = i := by omega
  rw [hj] at hd
  have hd2 := drop_cons hd.2.2.1
  have hy : S y := hS y (mem_drop hd.2.2.1)
  have hp : S p := hS p (mem_drop h)
  have hlt : i < l.length := hd2.2.1
  rw [sComp_L4, decide_eq_true (by omega)]
  simp only [cond_true]
  rw [inr_nat hlt, at_nat hd2.1, w64_pred (by omega) (by omega), inr_nat (by omega), at_nat hd.1, he y p hy hp]
  unfold dedupFrom
  cases hq : q y p with
  | true =>
   simp only [cond_true, if_true]
   rw [show (decide (0 < l.length) && (decide (0 ≤ (i : Int)) && decide ((i : Int) ≤ (l.length : Int)))) = true by simp; omega]
   obtain ⟨k', l', a1, a2, a3, a4⟩ := sComp_inner eq q S he i l.length hl ys y N i (i + 1) l (l.take i) rfl (by simpa using hd.2.2.1) (by omega) (by omega) rfl (fun w hw => hS w (by
     rcases List.mem_cons.1 hw with rfl | hw
     ·exact mem_drop hd.2.2.1
     ·exact sub_drop hd2.2.2.1 w hw)) (by omega)
   have e : ((i + 1 - i : Nat) : Int) = 1 := by omega
   rw [e] at a4
   simp only [cond_true, a4]
   rw [sCut_is (by omega) (by omega), a3]
  | false =>
   simp only [cond_false, Bool.false_eq_true, if_false]
   rw [w64_succ (by omega), sComp_loop N z eq q S he l hl hN hS ys y n (i + 1) (by simpa using hd.2.2.1) (by omega) (by simp at hn; omega) R k]
   congr 1
   rw [List.take_add_one, hd2.1]; simp
theorem sComp_is {α : Type} {N : Nat} {z : α} {eq : EqT α} (q : α → α → Bool) (S : α → Prop) (he : ∀ x y, S x → S y → ∀ (R : Type) (k : Bool → Option R), eq x y k = k (q x y)) (l : List α) (hl : N < 4611686018427380000) (hN : l.length < N) (hS : ∀ y ∈ l, S y) {R : Type} (k : List α → Option R) :
  sComp N z eq l k = k (compactP q l) := by
 unfold sComp
 match l, hN, hS with
 | [], _, _ => rfl
 | [x], _, _ => rfl
 | x :: y :: ys, hN, hS =>
  rw [decide_eq_false (by simp; omega)]
  have h := sComp_loop N z eq q S he (x :: y :: ys) (by omega) hN hS (y :: ys) x N 1 rfl (by omega) (by simp at hN ⊢; omega) R k
  refine Eq.trans h ?_
  simp [compactP]
theorem room1 {α : Type} (l : List α) (x : α) (by_ : Nat) (hl : l.length ≤ 1000000) (hby : by_ ≤ 10000) : decide ((l.length + [x].length) * by_ ≤ roomBytes') = true := by
 have p1 : (l.length + [x].length) * by_ ≤ 1000001 * 10000 := Nat.mul_le_mul (by simp; omega) hby
 exact decide_eq_true (by unfold roomBytes'; omega)
end Go.Am
set_option linter.unusedVariables false
set_option linter.unusedSimpArgs false
set_option maxRecDepth 100000
namespace Go.Am
open Go
def cmpI (a b : Int) : Int := bif decide (a < b) then -1 else bif decide (a > b) then 1 else 0
def orL : List Int → Int
 | [] => 0
 | x :: xs => bif x != 0 then x else orL xs
structure Ords {α : Type} (c : α → α → Int) : Prop where
 anti : ∀ x y, c y x = - c x y
 trans : ∀ x y z, c x y ≤ 0 → c y z ≤ 0 → c x z ≤ 0
theorem Ords.refl {α : Type} {c : α → α → Int} (h : Ords c) (x : α) : c x x = 0 := by have := h.anti x x; omega
theorem Ords.nil {α : Type} : Ords (fun (x y : α) => orL []) := ⟨fun _ _ => by simp [orL], fun _ _ _ _ _ => by simp [orL]⟩
theorem cb_cases (a b : List UInt8) : Lib.compareBytes a b = -1 ∨ Lib.compareBytes a b = 0 ∨ Lib.compareBytes a b = 1 := by
 induction a generalizing b with
 | nil => cases b <;> simp [Lib.compareBytes]
 | cons x xs ih =>
  cases b with
  | nil => simp [Lib.compareBytes]
  | cons y ys =>
   unfold Lib.compareBytes
   split
   ·exact .inl rfl
   ·split
    ·exact .inr (.inr rfl)
    ·exact ih ys
theorem cb_self : ∀ l : List UInt8, Lib.compareBytes l l = 0
 | [] => rfl
 | x :: xs => by unfold Lib.compareBytes; simp [cb_self xs]
theorem u8 {x y : UInt8} (h1 : ¬ x < y) (h2 : ¬ y < x) : x = y := by
 have e1 : ¬ x.toNat < y.toNat := by simpa [UInt8.lt_iff_toNat_lt] using h1
 have e2 : ¬ y.toNat < x.toNat := by simpa [UInt8.lt_iff_toNat_lt] using h2
 exact UInt8.toNat_inj.1 (by omega)
theorem bytesLess_is : ∀ a b : List UInt8, Op.bytesLess a b = decide (Lib.compareBytes a b < 0)
 | [], [] => by simp [Op.bytesLess, Lib.compareBytes]
 | _ :: _, [] => by simp [Op.bytesLess, Lib.compareBytes]
 | [], _ :: _ => by simp [Op.bytesLess, Lib.compareBytes]
 | x :: xs, y :: ys => by
  unfold Op.bytesLess Lib.compareBytes
  by_cases h1 : x < y
  ·simp [h1]
  ·by_cases h2 : y < x
   ·have h3 : ¬ x = y := fun e => by subst e; exact h1 h2
    simp [h1, h2, h3]
   ·have h3 := u8 h1 h2
    subst h3
    simp [h1, bytesLess_is xs ys]
theorem cb_zero : ∀ a b : List UInt8, Lib.compareBytes a b = 0 → a = b
 | [], [], _ => rfl
 | [], _ :: _, h => by simp [Lib.compareBytes] at h
 | _ :: _, [], h => by simp [Lib.compareBytes] at h
 | x :: xs, y :: ys, h => by
  unfold Lib.compareBytes at h
  split at h
  ·cases h
  ·split at h
   ·cases h
   ·rename_i h1 h2
    rw [u8 h1 h2, cb_zero xs ys h]
variable {A : Nat → Type}
theorem nat_bool {S : Spec A} (h : NatSpec S) {args : List (IV A)} {ys0 : List (IV A)} {F : {R : Type} → (Bool → Option R) → Option R} (hF : ∀ (R : Type) (k : IV A → List (IV A) → Option R), S args k = F (fun b => k (.d (.bool b)) ys0)) {b : Bool} (hb : F some = some b) (R : Type) (k : Bool → Option R) : F k = k b := by
 let f : (R : Type) → (Bool → Option R) → IV A → List (IV A) → Option R := fun R k r _ => match r with | .d (.bool b) => k b | _ => none
 have h1 := (hF R (f R k)).symm.trans (h args R (f R k))
 have h2 := (hF Bool (f Bool some)).symm.trans (h args Bool (f Bool some))
 have h3 : F (fun b => f R k (.d (.bool b)) ys0) = F k := rfl
 have h4 : F (fun b => f Bool some (.d (.bool b)) ys0) = F some := rfl
 rw [h3] at h1
 rw [h4, hb] at h2
 rw [h1]
 cases ht : S args (fun r ys => some (r, ys)) with
 | none => rw [ht] at h2; cases h2
 | some p =>
  obtain ⟨v, ys⟩ := p
  rw [ht] at h2
  simp only [Option.bind_some] at h2 ⊢
  unfold f at h2 ⊢
  split at h2
  ·cases h2; rfl
  ·cases h2
end Go.Am
set_option linter.unusedVariables false
set_option linter.unusedSimpArgs false
set_option maxRecDepth 100000
namespace Go.Am
open Go
end Go.Am
set_option linter.unusedVariables false
set_option linter.unusedSimpArgs false
namespace Go.Am
open Go
end Go.Am
set_option linter.unusedVariables false
set_option linter.unusedSimpArgs false
namespace Go.Am
open Go
abbrev CmpS (α σ : Type) : Type 1 := α → α → σ → {R : Type} → (Int → σ → Option R) → Option R
section
variable {α σ : Type} {cmp : CmpS α σ} {c : α → α → Int} {S : α → Prop} {s : σ}
end
abbrev CmpU (α σ τ υ : Type) : Type 1 := α → α → σ → τ → υ → {R : Type} → (Int → σ → τ → υ → Option R) → Option R
section
variable {α σ τ υ : Type} {cmp : CmpU α σ τ υ} {c : α → α → Int} {S : α → Prop} {s : σ} {t : τ} {u : υ}
end
end Go.Am
