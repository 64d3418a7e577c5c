/- The plain law, in Lean alone: B1, B2, B3. No condition: lemmas for the claim. -/
import Derived.Test.YtdpapgakljjnnaaGreatDoorAmPrint
set_option linter.unusedVariables false
set_option linter.unusedSimpArgs false
set_option maxRecDepth 100000
namespace Go.Am
open Go
theorem w64_eq {x : Int} (h1 : -9223372036854775808 ≤ x) (h2 : x ≤ 9223372036854775807) : w64 x = x := by
 unfold w64 IntKind.wrap
 simp [IntKind.bits, IntKind.signed]
 omega
theorem w64_succ {i : Nat} (h : i < 4611686018427387904) : w64 ((i : Int) + 1) = ((i + 1 : Nat) : Int) := by
 rw [w64_eq (by omega) (by omega)]; omega
theorem w64_pred {i : Nat} (h : i < 4611686018427387904) (h0 : 0 < i) : w64 ((i : Int) - 1) = ((i - 1 : Nat) : Int) := by
 rw [w64_eq (by omega) (by omega)]; omega
theorem at_nat {α : Type} {l : List α} {i : Nat} {x : α} (h : l[i]? = some x) {R : Type} (k : α → Option R) : at_ l (i : Int) k = k x := by
 unfold at_; rw [Int.toNat_natCast, h]
theorem at_int {α : Type} {l : List α} {i : Int} {x : α} (h : l[i.toNat]? = some x) {R : Type} (k : α → Option R) : at_ l i k = k x := by
 unfold at_; rw [h]
theorem get_nat {α : Type} {l : List α} {i : Nat} {x : α} (h : l[i]? = some x) {R : Type} (k : α → Option R) : get_ l (i : Int) k = k x := by
 unfold get_; rw [at_nat h]; simp
theorem inr_nat {α : Type} {l : List α} {i : Nat} (h : i < l.length) {R : Type} (k : Option R) : inr l (i : Int) k = k := by
 unfold inr; rw [decide_eq_true (show 0 ≤ (i : Int) by omega), decide_eq_true (show (i : Int) < (l.length : Int) by omega)]; rfl
theorem set_nat {α : Type} {l : List α} {i : Nat} {x : α} : set_ l (i : Int) x = l.set i x := by unfold set_; rw [Int.toNat_natCast]
theorem drop_cons {α : Type} {l : List α} {i : Nat} {x : α} {xs : List α} (h : l.drop i = x :: xs) : l[i]? = some x ∧ i < l.length ∧ l.drop (i + 1) = xs ∧ l.length = i + 1 + xs.length := by
 have h1 : l[i]? = some x := by
  have := congrArg (fun t => t[0]?) h
  simpa [List.getElem?_drop] using this
 have h2 : i < l.length := by
  rcases Nat.lt_or_ge i l.length with h2 | h2
  ·exact h2
  ·rw [List.getElem?_eq_none h2] at h1; cases h1
 have h3 := congrArg List.length h
 simp at h3
 refine ⟨h1, h2, ?_, by omega⟩
 rw [← List.drop_drop, h]; rfl
theorem drop_nil {α : Type} {l : List α} {i : Nat} (h : l.drop i = []) : l.length ≤ i := by
 have := congrArg List.length h
 simp at this; omega
theorem lt_drop {α : Type} {l : List α} {i : Nat} {x : α} {xs : List α} (h : l.drop i = x :: xs) : decide ((i : Int) < (l.length : Int)) = true := by
 have := (drop_cons h).2.1; exact decide_eq_true (by omega)
theorem ge_drop {α : Type} {l : List α} {i : Nat} (h : l.drop i = []) : decide ((i : Int) < (l.length : Int)) = false := by
 have := drop_nil h; exact decide_eq_false (by omega)
theorem get_drop {α : Type} {l : List α} {i : Nat} {x : α} {xs : List α} (h : l.drop i = x :: xs) {R : Type} (k : α → Option R) : get_ l (i : Int) k = k x := get_nat (drop_cons h).1 k
theorem at_drop {α : Type} {l : List α} {i : Nat} {x : α} {xs : List α} (h : l.drop i = x :: xs) {R : Type} (k : α → Option R) : at_ l (i : Int) k = k x := at_nat (drop_cons h).1 k
theorem inr_drop {α : Type} {l : List α} {i : Nat} {x : α} {xs : List α} (h : l.drop i = x :: xs) {R : Type} (k : Option R) : inr l (i : Int) k = k := inr_nat (drop_cons h).2.1 k
theorem prev_drop {α : Type} {l : List α} {i : Nat} {p : α} {xs : List α} (h : l.drop (i - 1) = p :: xs) (h0 : 0 < i) (hl : l.length < 4611686018427387904) {R : Type} (k : α → Option R) : get_ l (w64 ((i : Int) - 1)) k = k p := by
 have := (drop_cons h).2.1
 rw [w64_pred (by omega) h0]; exact get_drop h k
theorem mem_drop {α : Type} {l : List α} {i : Nat} {x : α} {xs : List α} (h : l.drop i = x :: xs) : x ∈ l := List.mem_of_getElem? (drop_cons h).1
end Go.Am
set_option linter.unusedVariables false
set_option linter.unusedSimpArgs false
set_option maxRecDepth 100000
namespace Go.Am
open Go
def sEqual_L4 {α : Type} (ne : α → α → Bool) : Nat → List α → List α → Int → Int → {R : Type} → (Bool → Option R) → Option R → Option R
 | 0, _, _, _, _, _, _, _ => none
 | n + 1, v3, v4, v5, v6, _, e0, e1 => (bif (decide (v6 < v5)) then (get_ v3 v6 fun x9 => (get_ v4 v6 fun x10 => (bif (ne x9 x10) then e0 false else sEqual_L4 ne n v3 v4 v5 (w64 (v6 + 1)) e0 e1))) else e1)
def sEqual {α : Type} (N : Nat) (ne : α → α → Bool) (a b : List α) {R : Type} (k0 : Bool → Option R) : Option R :=
 (bif ((a.length : Int) != (b.length : Int)) then k0 false else (sEqual_L4 ne N a b (a.length : Int) 0 (fun e11 => k0 e11) (k0 true)))
theorem sEqual_loop {α : Type} (ne : α → α → Bool) (l : List α) (hl : l.length < 4611686018427387904) (hne : ∀ x, ne x x = false) : ∀ (xs : List α) (n i : Nat), l.drop i = xs → xs.length < n → ∀ (R : Type) (e0 : Bool → Option R) (e1 : Option R), sEqual_L4 ne n l l (l.length : Int) (i : Int) e0 e1 = e1
 | _, 0, _, _, h, _, _, _ => by omega
 | [], n + 1, i, h, _, _, _, _ => by rw [sEqual_L4, ge_drop h]; rfl
 | x :: xs, n + 1, i, h, hn, R, e0, e1 => by
  have h' := drop_cons h
  rw [sEqual_L4, lt_drop h]
  simp only [cond_true, get_drop h, hne, cond_false]
  rw [w64_succ (by omega)]
  exact sEqual_loop ne l hl hne xs n (i + 1) h'.2.2.1 (by simp at hn; omega) R e0 e1
theorem sEqual_same {α : Type} {N : Nat} {ne : α → α → Bool} {l : List α} (hN : l.length < N) (hN2 : N ≤ 4611686018427387904) (hne : ∀ x, ne x x = false) {R : Type} (k : Bool → Option R) : sEqual N ne l l k = k true := by
 unfold sEqual
 have h := sEqual_loop ne l (by omega) hne l N 0 rfl hN R (fun e11 => k e11) (k true)
 simp only [bne_self_eq_false, cond_false]
 exact h
def idxI {α : Type} (p : α → Bool) (l : List α) : Int := match l.findIdx? p with | some i => (i : Int) | none => -1
theorem idxI_ge {α : Type} (p : α → Bool) (l : List α) : decide (idxI p l ≥ 0) = l.any p := by
 unfold idxI
 cases h : l.findIdx? p with
 | some i =>
  have := List.findIdx?_isSome (xs := l) (p := p)
  rw [h] at this
  show decide ((i : Int) ≥ 0) = _
  rw [decide_eq_true (by omega)]
  simpa using this
 | none =>
  have := List.findIdx?_isSome (xs := l) (p := p)
  rw [h] at this
  simp at this ⊢
  intro x hx
  exact this x hx
def sIndexF_L2 {α σ : Type} (f : α → σ → {R : Type} → (Bool → σ → Option R) → Option R) : Nat → List α → Int → Int → σ → {R : Type} → (Int → σ → Option R) → (σ → Option R) → Option R
 | 0, _, _, _, _, _, _, _ => none
 | n + 1, v3, v4, v5, v6, _, e0, e1 => (bif (decide (v5 < v4)) then (get_ v3 v5 fun x10 => (f x10 v6 (fun r11 r12 => (bif r11 then e0 v5 r12 else sIndexF_L2 f n v3 v4 (w64 (v5 + 1)) r12 e0 e1)))) else e1 v6)
theorem sIndexF_loop {α σ : Type} (f : α → σ → {R : Type} → (Bool → σ → Option R) → Option R) (p : α → Bool) (s : σ) (l : List α) (hf : ∀ x ∈ l, ∀ (R : Type) (k : Bool → σ → Option R), f x s k = k (p x) s) (hl : l.length < 4611686018427387904) :
  ∀ (xs : List α) (n i : Nat), l.drop i = xs → xs.length < n → ∀ (R : Type) (e0 : Int → σ → Option R) (e1 : σ → Option R),
  sIndexF_L2 f n l (l.length : Int) (i : Int) s e0 e1 = match xs.findIdx? p with | some j => e0 ((i + j : Nat) : Int) s | none => e1 s
 | _, 0, _, _, h, _, _, _ => by omega
 | [], n + 1, i, h, _, _, _, _ => by rw [sIndexF_L2, ge_drop h]; rfl
 | x :: xs, n + 1, i, h, hn, R, e0, e1 => by
  have h' := drop_cons h
  rw [sIndexF_L2, lt_drop h]
  simp only [cond_true, get_drop h, List.findIdx?_cons, hf x (mem_drop h)]
  cases hq : p x with
  | true => simp
  | false =>
   simp only [cond_false]
   rw [w64_succ (by omega), sIndexF_loop f p s l hf hl xs n (i + 1) h'.2.2.1 (by simp at hn; omega) R e0 e1]
   cases xs.findIdx? p with
   | none => rfl
   | some j => simp; congr 1; omega
def sIndexF {α σ : Type} (N : Nat) (f : α → σ → {R : Type} → (Bool → σ → Option R) → Option R) (a1 : List α) (a2 : σ) {R : Type} (k0 : Int → σ → Option R) : Option R := (sIndexF_L2 f N a1 (a1.length : Int) 0 a2 (fun e9 e10 => k0 e9 e10) (fun e => k0 (-1) e))
theorem sIndexF_is {α σ : Type} {N : Nat} (f : α → σ → {R : Type} → (Bool → σ → Option R) → Option R) (p : α → Bool) (s : σ) (l : List α) (hf : ∀ x ∈ l, ∀ (R : Type) (k : Bool → σ → Option R), f x s k = k (p x) s) (hN : l.length < N) (hN2 : N ≤ 4611686018427387904) {R : Type} (k : Int → σ → Option R) :
  sIndexF N f l s k = k (idxI p l) s := by
 unfold sIndexF
 have h := sIndexF_loop f p s l hf (by omega) l N 0 rfl hN R (fun e9 e10 => k e9 e10) (fun e => k (-1) e)
 refine h.trans ?_
 unfold idxI
 cases l.findIdx? p with
 | none => rfl
 | some j => simp
def sIns_L4 {α : Type} (cmp : CmpT α) : Nat → Int → Int → Int → Int → List α → {R : Type} → (Int → Int → Int → List α → Option R) → Option R
 | 0, _, _, _, _, _, _, _ => none
 | n + 1, v31, v32, v33, v34, v35, _, e0 => (bif (decide (v34 > v31)) then (inr v35 v34 (at_ v35 v34 fun x43 => (inr v35 (w64 (v34 - 1)) (at_ v35 (w64 (v34 - 1)) fun x44 => (cmp x43 x44 (fun r45 => (bif (decide (r45 < 0)) then (inr v35 (w64 (v34 - 1)) (at_ v35 (w64 (v34 - 1)) fun x46 => (inr v35 v34 (at_ v35 v34 fun x47 => (inr v35 v34 (at_ v35 v34 fun x48 => (inr (set_ v35 v34 x46) (w64 (v34 - 1)) (at_ (set_ v35 v34 x46) (w64 (v34 - 1)) fun x49 => sIns_L4 cmp n v31 v32 v33 (w64 (v34 - 1)) (set_ (set_ v35 v34 x46) (w64 (v34 - 1)) x47) e0)))))))) else e0 v31 v32 v33 v35))))))) else e0 v31 v32 v33 v35)
def sIns_L1 {α : Type} (N : Nat) (cmp : CmpT α) : Nat → Int → Int → Int → List α → {R : Type} → (List α → Option R) → Option R
 | 0, _, _, _, _, _, _ => none
 | n + 1, v4, v5, v6, v7, _, e0 => (bif (decide (v6 < v5)) then (sIns_L4 cmp N v4 v5 v6 v6 v7 (fun e50 e51 e52 e53 => sIns_L1 N cmp n e50 e51 (w64 (e52 + 1)) e53 e0)) else e0 v7)
def sIns {α : Type} (N : Nat) (cmp : CmpT α) (a1 : List α) (a2 a3 : Int) {R : Type} (k0 : List α → Option R) : Option R :=
 (sIns_L1 N cmp N a2 a3 (w64 (a2 + 1)) a1 (fun e54 => k0 e54))
def insRev {α : Type} (c : α → α → Int) (x : α) : List α → List α
 | [] => [x]
 | y :: ys => if c x y < 0 then y :: insRev c x ys else x :: y :: ys
def sortRev {α : Type} (c : α → α → Int) : List α → List α → List α
 | acc, [] => acc
 | acc, x :: xs => sortRev c (insRev c x acc) xs
def sortI {α : Type} (c : α → α → Int) (l : List α) : List α := (sortRev c [] l).reverse
theorem insRev_perm {α : Type} (c : α → α → Int) (x : α) : ∀ l : List α, (insRev c x l).Perm (x :: l)
 | [] => .refl _
 | y :: ys => by
  unfold insRev
  split
  ·exact ((insRev_perm c x ys).cons y).trans (List.Perm.swap x y ys)
  ·exact .refl _
theorem sortRev_perm {α : Type} (c : α → α → Int) : ∀ (l acc : List α), (sortRev c acc l).Perm (acc ++ l)
 | [], acc => by simp [sortRev]
 | x :: xs, acc => by
  unfold sortRev
  refine (sortRev_perm c xs _).trans ?_
  refine ((insRev_perm c x acc).append_right xs).trans ?_
  exact (List.perm_middle (l₁ := acc) (l₂ := xs) (a := x)).symm
theorem sortI_perm {α : Type} (c : α → α → Int) (l : List α) : (sortI c l).Perm l := by
 unfold sortI
 exact (List.reverse_perm _).trans (by simpa using sortRev_perm c l [])
theorem sortI_length {α : Type} (c : α → α → Int) (l : List α) : (sortI c l).length = l.length := (sortI_perm c l).length_eq
theorem sortI_mem {α : Type} {c : α → α → Int} {l : List α} {x : α} : x ∈ sortI c l ↔ x ∈ l := (sortI_perm c l).mem_iff
theorem set_mid {α : Type} (pre : List α) (a b : α) (post : List α) : (pre ++ a :: post).set pre.length b = pre ++ b :: post := by
 induction pre with
 | nil => rfl
 | cons x xs ih => simp [ih]
theorem get_mid {α : Type} (pre : List α) (a : α) (post : List α) : (pre ++ a :: post)[pre.length]? = some a := by simp
theorem sIns_inner {α : Type} (cmp : CmpT α) (c : α → α → Int) (S : α → Prop) (hc : ∀ x y, S x → S y → ∀ (R : Type) (k : Int → Option R), cmp x y k = k (c x y)) (x : α) (hx : S x) (b i : Int) :
  ∀ (rs post : List α) (n : Nat), (∀ y ∈ rs, S y) → rs.length < n → rs.length + post.length < 4611686018427387000 → ∀ (R : Type) (e0 : Int → Int → Int → List α → Option R),
  sIns_L4 cmp n 0 b i (rs.length : Int) (rs.reverse ++ x :: post) e0 = e0 0 b i ((insRev c x rs).reverse ++ post)
 | _, _, 0, _, h, _, _, _ => by omega
 | [], post, n + 1, _, _, _, R, e0 => by rw [sIns_L4]; simp [insRev]
 | y :: ys, post, n + 1, hS, hn, hl, R, e0 => by
  have hy : S y := hS y (by simp)
  have e1 : w64 (((y :: ys).length : Nat) - 1 : Int) = (ys.length : Int) := by
   rw [w64_eq (by omega) (by simp at hl ⊢; omega)]; simp
  have hd : (y :: ys).reverse ++ x :: post = ys.reverse ++ y :: x :: post := by simp
  have g1 : (ys.reverse ++ y :: x :: post)[ys.length]? = some y := by
   have := get_mid ys.reverse y (x :: post); rwa [List.length_reverse] at this
  have hd2 : ys.reverse ++ y :: x :: post = (ys.reverse ++ [y]) ++ x :: post := by simp
  have g2 : (ys.reverse ++ y :: x :: post)[ys.length + 1]? = some x := by
   have := get_mid (ys.reverse ++ [y]) x post
   rw [← hd2] at this; rwa [List.length_append, List.length_reverse] at this
  have len1 : (ys.reverse ++ y :: x :: post).length = ys.length + 2 + post.length := by simp; omega
  have s1 : (ys.reverse ++ y :: x :: post).set (ys.length + 1) y = ys.reverse ++ y :: y :: post := by
   have := set_mid (ys.reverse ++ [y]) x y post
   rw [← hd2] at this
   rw [List.length_append, List.length_reverse] at this
   refine Eq.trans this ?_
   simp
  have s2 : (ys.reverse ++ y :: y :: post).set ys.length x = ys.reverse ++ x :: y :: post := by
   have := set_mid ys.reverse y x (y :: post); rwa [List.length_reverse] at this
  have g3 : (ys.reverse ++ y :: y :: post)[ys.length]? = some y := by
   have := get_mid ys.reverse y (y :: post); rwa [List.length_reverse] at this
  have c1 : (((y :: ys).length : Nat) : Int) = ((ys.length + 1 : Nat) : Int) := by simp
  rw [sIns_L4]
  rw [decide_eq_true (show (((y :: ys).length : Nat) : Int) > 0 by simp)]
  simp only [cond_true, hd, e1]
  rw [c1]
  rw [inr_nat (by omega), at_nat g2, inr_nat (by omega), at_nat g1, hc x y hx hy]
  unfold insRev
  by_cases hlt : c x y < 0
  ·rw [decide_eq_true hlt, if_pos hlt]
   simp only [cond_true]
   rw [inr_nat (by omega), at_nat g1, inr_nat (by omega), at_nat g2, inr_nat (by omega), at_nat g2, set_nat, s1, inr_nat (by simp), at_nat g3, set_nat, s2]
   rw [sIns_inner cmp c S hc x hx b i ys (y :: post) n (fun z hz => hS z (by simp [hz])) (by simp at hn; omega) (by simp at hl ⊢; omega) R e0]
   simp
  ·rw [decide_eq_false hlt, if_neg hlt]
   simp
theorem sIns_outer {α : Type} (N : Nat) (cmp : CmpT α) (c : α → α → Int) (S : α → Prop) (hc : ∀ x y, S x → S y → ∀ (R : Type) (k : Int → Option R), cmp x y k = k (c x y)) (len : Nat) (hlen : len < 4611686018427380000) (hN : len < N) :
  ∀ (rest acc : List α) (n : Nat), (∀ y ∈ acc, S y) → (∀ y ∈ rest, S y) → acc.length + rest.length = len → rest.length < n → ∀ (R : Type) (e0 : List α → Option R),
  sIns_L1 N cmp n 0 (len : Int) (acc.length : Int) (acc.reverse ++ rest) e0 = e0 (sortRev c acc rest).reverse
 | _, _, 0, _, _, _, h, _, _ => by omega
 | [], acc, n + 1, _, _, hl, _, R, e0 => by
  rw [sIns_L1, decide_eq_false (by simp at hl; omega)]
  simp [sortRev]
 | x :: xs, acc, n + 1, hS, hS2, hl, hn, R, e0 => by
  have hx : S x := hS2 x (by simp)
  have hlx : (insRev c x acc).length = acc.length + 1 := by rw [(insRev_perm c x acc).length_eq]; simp
  rw [sIns_L1, decide_eq_true (by simp at hl; omega)]
  simp only [cond_true]
  rw [sIns_inner cmp c S hc x hx (len : Int) (acc.length : Int) acc xs N hS (by simp at hl; omega) (by simp at hl; omega), w64_succ (by omega), ← hlx]
  rw [sIns_outer N cmp c S hc len hlen hN xs (insRev c x acc) n (fun y hy => by
   rcases List.mem_cons.1 ((insRev_perm c x acc).mem_iff.1 hy) with rfl | hy
   ·exact hx
   ·exact hS y hy) (fun y hy => hS2 y (by simp [hy])) (by simp at hl ⊢; omega) (by simp at hn; omega) R e0]
  rfl
theorem sIns_is {α : Type} {N : Nat} {cmp : CmpT α} (c : α → α → Int) (S : α → Prop) (hc : ∀ x y, S x → S y → ∀ (R : Type) (k : Int → Option R), cmp x y k = k (c x y)) (l : List α) (hS : ∀ y ∈ l, S y) (hN : l.length + 1 < N) (hN2 : N ≤ 4611686018427380000) {R : Type} (k : List α → Option R) :
  sIns N cmp l 0 (l.length : Int) k = k (sortI c l) := by
 unfold sIns
 rw [w64_eq (by omega) (by omega)]
 cases l with
 | nil =>
  obtain ⟨m, rfl⟩ : ∃ m, N = m + 1 := ⟨N - 1, by omega⟩
  rw [sIns_L1]; simp [sortI, sortRev]
 | cons x xs =>
  have h := sIns_outer N cmp c S hc (x :: xs).length (by omega) (by omega) xs [x] N (by simpa using hS x (by simp)) (fun y hy => hS y (by simp [hy])) (by simp; omega) (by simp at hN; omega) R (fun e54 => k e54)
  simp only [List.length_singleton, List.reverse_singleton, List.singleton_append] at h
  exact h
theorem sIns_end {α : Type} {N : Nat} {cmp : CmpT α} (l : List α) (a : Int) (h1 : -1000000 ≤ a) (h2 : a ≤ 1000000000) (hN : 0 < N) {R : Type} (k : List α → Option R) : sIns N cmp l a a k = k l := by
 unfold sIns
 obtain ⟨m, rfl⟩ : ∃ m, N = m + 1 := ⟨N - 1, by omega⟩
 rw [w64_eq (by omega) (by omega), sIns_L1, decide_eq_false (by omega)]
 rfl
end Go.Am
set_option linter.unusedVariables false
set_option linter.unusedSimpArgs false
set_option maxRecDepth 100000
namespace Go.Am
open Go
def sSta_L2 {α : Type} (ins : List α → Int → Int → {R : Type} → (List α → Option R) → Option R) : Nat → Int → Int → Int → Int → List α → {R : Type} → (Int → Int → Int → List α → Option R) → Option R
 | 0, _, _, _, _, _, _, _ => none
 | n + 1, v3, v4, v5, v6, v7, _, e0 => (bif (decide (v6 ≤ v3)) then (ins v7 v5 v6 (fun r9 => sSta_L2 ins n v3 v4 v6 (w64 (v6 + v4)) r9 e0)) else e0 v3 v4 v5 v7)
theorem sSta_L2_is {α : Type} {N M : Nat} {cmp : CmpT α} (c : α → α → Int) (S : α → Prop) (hc : ∀ x y, S x → S y → ∀ (R : Type) (k : Int → Option R), cmp x y k = k (c x y)) (l : List α) (hS : ∀ y ∈ l, S y) (hl : l.length ≤ 20) (hN : 1000 ≤ N) (hN2 : N ≤ 4611686018427380000) {R : Type} (e0 : Int → Int → Int → List α → Option R)
  (ins : List α → Int → Int → {R : Type} → (List α → Option R) → Option R) (hi : ∀ l a b (R : Type) (k : List α → Option R), ins l a b k = sIns N cmp l a b k) :
  (sSta_L2 ins (M + 3) (l.length : Int) 20 0 20 l e0 = if l.length = 20 then e0 (l.length : Int) 20 20 (sortI c l) else e0 (l.length : Int) 20 0 l) := by
 rw [sSta_L2]
 by_cases h : l.length = 20
 ·rw [decide_eq_true (by omega), if_pos h]
  simp only [cond_true, hi]
  have h20 : (20 : Int) = (l.length : Int) := by omega
  have e1 := sIns_is (N := N) c S hc l hS (by omega) hN2 (fun r9 => sSta_L2 ins (M + 2) (l.length : Int) 20 20 (w64 (20 + 20)) r9 e0)
  rw [← h20] at e1
  rw [← h20, e1, sSta_L2, w64_eq (by omega) (by omega), decide_eq_false (by omega)]
  rfl
 ·rw [decide_eq_false (by omega), if_neg h]
  rfl
def sSta_L9 {α : Type} : Nat → Int → Int → Int → Int → List α → {R : Type} → (Int → Int → Int → List α → Option R) → Option R
 | 0, _, _, _, _, _, _, _ => none
 | n + 1, v30, v31, v32, v33, v34, _, e0 => (bif (decide (v33 ≤ v30)) then none else e0 v30 v31 v32 v34)
def sSta_L7 {α : Type} (N : Nat) : Nat → Int → Int → List α → {R : Type} → (List α → Option R) → Option R
 | 0, _, _, _, _, _ => none
 | n + 1, v15, v16, v17, _, e0 => (bif (decide (v16 < v15)) then (sSta_L9 N v15 v16 0 (w64 (2 * v16)) v17 (fun e37 e38 e39 e40 => (bif (decide ((w64 (e39 + e38)) < e37)) then none else sSta_L7 N n e37 (w64 (e38 * 2)) e40 e0))) else e0 v17)
def sSta {α : Type} (N : Nat) (ins : List α → Int → Int → {R : Type} → (List α → Option R) → Option R) (a1 : List α) (a2 : Int) {R : Type} (k0 : List α → Option R) : Option R :=
 (sSta_L2 ins N a2 20 0 20 a1 (fun e10 e11 e12 e13 => (ins e13 e12 e10 (fun r14 => (sSta_L7 N N e10 e11 r14 (fun e42 => k0 e42))))))
theorem sSta_is {α : Type} {N : Nat} {cmp : CmpT α} (c : α → α → Int) (S : α → Prop) (hc : ∀ x y, S x → S y → ∀ (R : Type) (k : Int → Option R), cmp x y k = k (c x y)) (l : List α) (hS : ∀ y ∈ l, S y) (hl : l.length ≤ 20) (hN : 1000 ≤ N) (hN2 : N ≤ 4611686018427380000) (ins : List α → Int → Int → {R : Type} → (List α → Option R) → Option R) (hi : ∀ l a b (R : Type) (k : List α → Option R), ins l a b k = sIns N cmp l a b k) {R : Type} (k : List α → Option R) :
  sSta N ins l (l.length : Int) k = k (sortI c l) := by
 obtain ⟨m, rfl⟩ : ∃ m, N = m + 3 := ⟨N - 3, by omega⟩
 unfold sSta
 rw [sSta_L2_is (N := m + 3) c S hc l hS hl hN hN2 _ ins hi]
 simp only [hi]
 have h7 : ∀ r : List α, sSta_L7 (m + 3) (m + 3) (l.length : Int) 20 r k = k r := fun r => by
  rw [sSta_L7, decide_eq_false (by omega)]; rfl
 split
 ·rename_i h
  have h20 : (l.length : Int) = 20 := by omega
  rw [h20] at h7 ⊢
  rw [sIns_end _ _ (by omega) (by omega) (by omega)]
  exact h7 _
 ·rw [sIns_is c S hc l hS (by omega) hN2]
  exact h7 _
def sIndexO_L2 {α σ : Type} (f : α → σ → {R : Type} → (Bool → σ → Option R) → Option R) : Nat → Int → Int → List α → σ → {R : Type} → (Int → List α → σ → Option R) → (List α → σ → Option R) → Option R
 | 0, _, _, _, _, _, _, _ => none
 | n + 1, v3, v4, v5, v6, _, e0, e1 => (bif (decide (v4 < v3)) then (inr v5 v4 (at_ v5 v4 fun x10 => (f x10 v6 (fun r11 r12 => (bif r11 then e0 v4 v5 r12 else sIndexO_L2 f n v3 (w64 (v4 + 1)) v5 r12 e0 e1))))) else e1 v5 v6)
theorem sIndexO_loop {α σ : Type} (f : α → σ → {R : Type} → (Bool → σ → Option R) → Option R) (p : α → Bool) (s : σ) (l : List α) (hf : ∀ x ∈ l, ∀ (R : Type) (k : Bool → σ → Option R), f x s k = k (p x) s) (hl : l.length < 4611686018427387904) :
  ∀ (xs : List α) (n i : Nat), l.drop i = xs → xs.length < n → ∀ (R : Type) (e0 : Int → List α → σ → Option R) (e1 : List α → σ → Option R),
  sIndexO_L2 f n (l.length : Int) (i : Int) l s e0 e1 = match xs.findIdx? p with | some j => e0 ((i + j : Nat) : Int) l s | none => e1 l s
 | _, 0, _, _, h, _, _, _ => by omega
 | [], n + 1, i, h, _, _, _, _ => by rw [sIndexO_L2, ge_drop h]; rfl
 | x :: xs, n + 1, i, h, hn, R, e0, e1 => by
  have h' := drop_cons h
  rw [sIndexO_L2, lt_drop h]
  simp only [cond_true, inr_drop h, at_drop h, List.findIdx?_cons, hf x (mem_drop h)]
  cases hq : p x with
  | true => simp
  | false =>
   simp only [cond_false]
   rw [w64_succ (by omega), sIndexO_loop f p s l hf hl xs n (i + 1) h'.2.2.1 (by simp at hn; omega) R e0 e1]
   cases xs.findIdx? p with
   | none => rfl
   | some j => simp; congr 1; omega
def sIndexO {α σ : Type} (N : Nat) (f : α → σ → {R : Type} → (Bool → σ → Option R) → Option R) (a1 : List α) (a2 : σ) {R : Type} (k0 : Int → List α → σ → Option R) : Option R := (sIndexO_L2 f N (a1.length : Int) 0 a1 a2 (fun e9 e10 e11 => k0 e9 e10 e11) (fun e f => k0 (-1) e f))
theorem sIndexO_is {α σ : Type} {N : Nat} (f : α → σ → {R : Type} → (Bool → σ → Option R) → Option R) (p : α → Bool) (s : σ) (l : List α) (hf : ∀ x ∈ l, ∀ (R : Type) (k : Bool → σ → Option R), f x s k = k (p x) s) (hN : l.length < N) (hN2 : N ≤ 4611686018427387904) {R : Type} (k : Int → List α → σ → Option R) :
  sIndexO N f l s k = k (idxI p l) l s := by
 unfold sIndexO
 have h := sIndexO_loop f p s l hf (by omega) l N 0 rfl hN R (fun e9 e10 e11 => k e9 e10 e11) (fun e f => k (-1) e f)
 refine h.trans ?_
 unfold idxI
 cases l.findIdx? p with
 | none => rfl
 | some j => simp
def sCat_L3 {α : Type} : Nat → List (List α) → Int → List (List α) → Int → Int → {R : Type} → (List (List α) → Int → Option R) → Option R
 | 0, _, _, _, _, _, _, _ => none
 | n + 1, v2, v3, v4, v5, v6, _, e0 => (bif (decide (v6 < v5)) then (get_ v4 v6 fun x8 => (bif (decide ((w64 (v3 + (x8.length : Int))) < 0)) then none else sCat_L3 n v2 (w64 (v3 + (x8.length : Int))) v4 v5 (w64 (v6 + 1)) e0)) else e0 v2 v3)
def sCat_L11 {α : Type} (by_ : Nat) : Nat → List (List α) → Int → Int → List α → {R : Type} → (List α → Option R) → Option R
 | 0, _, _, _, _, _, _ => none
 | n + 1, v12, v13, v14, v15, _, e0 => (bif (decide (v14 < v13)) then (get_ v12 v14 fun x17 => (bif (decide ((v15.length + x17.length) * by_ ≤ roomBytes')) then sCat_L11 by_ n v12 v13 (w64 (v14 + 1)) (v15 ++ x17) e0 else none)) else e0 v15)
def sCat {α : Type} (N by_ : Nat) (gr : Int → {R : Type} → (List α → Option R) → Option R) (a1 : List (List α)) {R : Type} (k0 : List α → Option R) : Option R :=
 (sCat_L3 N a1 0 a1 (a1.length : Int) 0 (fun e9 e10 => (gr e10 (fun r11 => (sCat_L11 by_ N e9 (e9.length : Int) 0 r11 (fun e18 => k0 e18))))))
theorem sCat_two {α : Type} {N by_ : Nat} (a b : List α) (ha : a.length ≤ 100000) (hb : b.length ≤ 100000) (hby : by_ ≤ 10000) (hN : 10 ≤ N) {R : Type} (k : List α → Option R) : sCat N by_ (X_grow by_) [a, b] k = k (a ++ b) := by
 obtain ⟨m, rfl⟩ : ∃ m, N = m + 4 := ⟨N - 4, by omega⟩
 have p1 : (a.length + b.length) * by_ ≤ 2000000000 := Nat.le_trans (Nat.mul_le_mul (show a.length + b.length ≤ 200000 by omega) hby) (by omega)
 have p2 : a.length * by_ ≤ 2000000000 := Nat.le_trans (Nat.mul_le_mul (show a.length ≤ 200000 by omega) hby) (by omega)
 have e1 : w64 (0 + (a.length : Int)) = (a.length : Int) := by rw [w64_eq (by omega) (by omega)]; omega
 have e2 : w64 ((a.length : Int) + (b.length : Int)) = ((a.length + b.length : Nat) : Int) := by rw [w64_eq (by omega) (by omega)]; omega
 have e3 : w64 (0 + 1) = ((1 : Nat) : Int) := by rw [w64_eq (by omega) (by omega)]; rfl
 have e4 : w64 (((1 : Nat) : Int) + 1) = ((2 : Nat) : Int) := by rw [w64_eq (by omega) (by omega)]; rfl
 have g0 : ∀ {R : Type} (k : List α → Option R), get_ [a, b] 0 k = k a := fun k => get_nat (i := 0) rfl k
 have g1 : ∀ {R : Type} (k : List α → Option R), get_ [a, b] ((1 : Nat) : Int) k = k b := fun k => get_nat (i := 1) rfl k
 unfold sCat
 simp only [sCat_L3, sCat_L11, g0, g1, e1, e2, e3, e4]
 have l2 : (([a, b] : List (List α)).length : Int) = 2 := rfl
 have d0 : decide ((a.length : Int) < 0) = false := decide_eq_false (by omega)
 have d1 : decide (((a.length + b.length : Nat) : Int) < 0) = false := decide_eq_false (by omega)
 have d2 : decide ((0 : Int) < 2) = true := rfl
 have d3 : decide (((1 : Nat) : Int) < 2) = true := rfl
 have d4 : decide (((2 : Nat) : Int) < 2) = false := rfl
 rw [l2, d2, d3, d4, d0, d1]
 simp only [cond_true, cond_false, X_grow]
 rw [show (decide (0 ≤ ((a.length + b.length : Nat) : Int)) && (decide (((a.length + b.length : Nat) : Int).toNat * by_ ≤ 140737488355328) && decide (((a.length + b.length : Nat) : Int) ≤ 4611686018427387904))) = true by
  rw [Int.toNat_natCast]; simp; omega]
 simp only [cond_true, List.length_nil, List.nil_append, Nat.zero_add, l2]
 rw [decide_eq_true (show a.length * by_ ≤ roomBytes' by unfold roomBytes'; omega), decide_eq_true (show (a.length + b.length) * by_ ≤ roomBytes' by unfold roomBytes'; omega)]
 rfl
theorem X_clone_is {α : Type} {by_ : Nat} (l : List α) (hl : l.length ≤ 1000000) (hby : by_ ≤ 10000) {R : Type} (k : List α → Option R) : X_clone by_ l k = k l := by
 have p1 : l.length * by_ ≤ 10000000000 := Nat.le_trans (Nat.mul_le_mul hl hby) (by omega)
 unfold X_clone
 rw [decide_eq_true (show l.length * by_ ≤ 140737488355328 by omega), decide_eq_true (show l.length ≤ maxLen by unfold maxLen; omega)]
 rfl
theorem room1 {α : Type} (l : List α) (x : α) (by_ : Nat) (hl : l.length ≤ 1000000) (hby : by_ ≤ 10000) : decide ((l.length + [x].length) * by_ ≤ roomBytes') = true := by
 have p1 : (l.length + [x].length) * by_ ≤ 1000001 * 10000 := Nat.mul_le_mul (by simp; omega) hby
 exact decide_eq_true (by unfold roomBytes'; omega)
end Go.Am
