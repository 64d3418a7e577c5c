/- The plain law, in Lean alone: B1, B2, B3. No condition: lemmas for the claim. -/
import Derived.Test.YtphcgliehecbkaaGreatDoorAmPrint
set_option linter.unusedVariables false
set_option linter.unusedSimpArgs false
set_option maxRecDepth 100000
namespace Go.Am
open Go
theorem yaKy {x:Int} (h1:-9223372036854775808≤x) (h2:x≤9223372036854775807):w64 x = x:=by
 unfold w64 IntKind.wrap
 simp [IntKind.bits,IntKind.signed]
 omega
theorem yazy {i:Nat} (h:i < 4611686018427387904):w64 ((i:Int) + 1) = ((i + 1:Nat):Int):=by
 rw [yaKy (by omega) (by omega)]; omega
theorem yjRy {i:Nat} (h:i < 4611686018427387904) (h0:0 < i):w64 ((i:Int) - 1) = ((i - 1:Nat):Int):=by
 rw [yaKy (by omega) (by omega)]; omega
theorem ybmy {α:Type} {l:List α} {i:Nat} {x:α} (h:l[i]? = some x) {R:Type} (k:α→Option R):at_ l (i:Int) k = k x:=by
 unfold at_; rw [Int.toNat_natCast,h]
theorem ypKy {α:Type} {l:List α} {i:Int} {x:α} (h:l[i.toNat]? = some x) {R:Type} (k:α→Option R):at_ l i k = k x:=by
 unfold at_; rw [h]
theorem ydfy {α:Type} {l:List α} {i:Nat} {x:α} (h:l[i]? = some x) {R:Type} (k:α→Option R):get_ l (i:Int) k = k x:=by
 unfold get_; rw [ybmy h]; simp
theorem ybdy {α:Type} {l:List α} {i:Nat} (h:i < l.length) {R:Type} (k:Option R):inr l (i:Int) k = k:=by
 unfold inr; rw [decide_eq_true (show 0≤(i:Int) by omega),decide_eq_true (show (i:Int) < (l.length:Int) by omega)]; rfl
theorem ydhy {α:Type} {l:List α} {i:Nat} {x:α}:set_ l (i:Int) x = l.set i x:=by unfold set_; rw [Int.toNat_natCast]
theorem yavy {α:Type} {l:List α} {i:Nat} {x:α} {xs:List α} (h:l.drop i = x :: xs):l[i]? = some x∧i < l.length∧l.drop (i + 1) = xs∧l.length = i + 1 + xs.length:=by
 have h1:l[i]? = some x:=by
  have:=congrArg (fun t=>t[0]?) h
  simpa [List.getElem?_drop] using this
 have h2:i < l.length:=by
  rcases Nat.lt_or_ge i l.length with h2 | h2
  ·exact h2
  ·rw [List.getElem?_eq_none h2] at h1; cases h1
 have h3:=congrArg List.length h
 simp at h3
 refine ⟨h1,h2,?_,by omega⟩
 rw [← List.drop_drop,h]; rfl
theorem yDGy {α:Type} {l:List α} {i:Nat} (h:l.drop i = []):l.length≤i:=by
 have:=congrArg List.length h
 simp at this; omega
theorem yaJy {α:Type} {l:List α} {i:Nat} {x:α} {xs:List α} (h:l.drop i = x :: xs):decide ((i:Int) < (l.length:Int)) = true:=by
 have:=(yavy h).2.1; exact decide_eq_true (by omega)
theorem ya6y {α:Type} {l:List α} {i:Nat} (h:l.drop i = []):decide ((i:Int) < (l.length:Int)) = false:=by
 have:=yDGy h; exact decide_eq_false (by omega)
theorem yaWy {α:Type} {l:List α} {i:Nat} {x:α} {xs:List α} (h:l.drop i = x :: xs) {R:Type} (k:α→Option R):get_ l (i:Int) k = k x:=ydfy (yavy h).1 k
theorem yc9y {α:Type} {l:List α} {i:Nat} {x:α} {xs:List α} (h:l.drop i = x :: xs) {R:Type} (k:α→Option R):at_ l (i:Int) k = k x:=ybmy (yavy h).1 k
theorem ycry {α:Type} {l:List α} {i:Nat} {x:α} {xs:List α} (h:l.drop i = x :: xs) {R:Type} (k:Option R):inr l (i:Int) k = k:=ybdy (yavy h).2.1 k
theorem yrmy {α:Type} {l:List α} {i:Nat} {p:α} {xs:List α} (h:l.drop (i - 1) = p :: xs) (h0:0 < i) (hl:l.length < 4611686018427387904) {R:Type} (k:α→Option R):get_ l (w64 ((i:Int) - 1)) k = k p:=by
 have:=(yavy h).2.1
 rw [yjRy (by omega) h0]; exact yaWy h k
theorem yd0y {α:Type} {l:List α} {i:Nat} {x:α} {xs:List α} (h:l.drop i = x :: xs):x ∈ l:=List.mem_of_getElem? (yavy h).1
end Go.Am
set_option linter.unusedVariables false
set_option linter.unusedSimpArgs false
set_option maxRecDepth 100000
namespace Go.Am
open Go
def yf6y {α:Type} (ne:α→α→Bool):Nat→List α→List α→Int→Int→{R:Type}→(Bool→Option R)→Option R→Option R
 | 0,_,_,_,_,_,_,_=>none
 | n + 1,v3,v4,v5,v6,_,e0,e1=>(bif (decide (v6 < v5)) then (get_ v3 v6 fun x9=>(get_ v4 v6 fun x10=>(bif (ne x9 x10) then e0 false else yf6y ne n v3 v4 v5 (w64 (v6 + 1)) e0 e1))) else e1)
def yozy {α:Type} (N:Nat) (ne:α→α→Bool) (a b:List α) {R:Type} (k0:Bool→Option R):Option R :=
 (bif ((a.length:Int) != (b.length:Int)) then k0 false else (yf6y ne N a b (a.length:Int) 0 (fun e11=>k0 e11) (k0 true)))
theorem ynoy {α:Type} (ne:α→α→Bool) (l:List α) (hl:l.length < 4611686018427387904) (hne:∀ x,ne x x = false):∀ (xs:List α) (n i:Nat),l.drop i = xs→xs.length < n→∀ (R:Type) (e0:Bool→Option R) (e1:Option R),yf6y ne n l l (l.length:Int) (i:Int) e0 e1 = e1
 | _,0,_,_,h,_,_,_=>by omega
 | [],n + 1,i,h,_,_,_,_=>by rw [yf6y,ya6y h]; rfl
 | x :: xs,n + 1,i,h,hn,R,e0,e1=>by
  have h':=yavy h
  rw [yf6y,yaJy h]
  simp only [cond_true,yaWy h,hne,cond_false]
  rw [yazy (by omega)]
  exact ynoy ne l hl hne xs n (i + 1) h'.2.2.1 (by simp at hn; omega) R e0 e1
theorem yvXy {α:Type} {N:Nat} {ne:α→α→Bool} {l:List α} (hN:l.length < N) (hN2:N≤4611686018427387904) (hne:∀ x,ne x x = false) {R:Type} (k:Bool→Option R):yozy N ne l l k = k true:=by
 unfold yozy
 have h:=ynoy ne l (by omega) hne l N 0 rfl hN R (fun e11=>k e11) (k true)
 simp only [bne_self_eq_false,cond_false]
 exact h
def idxI {α:Type} (p:α→Bool) (l:List α):Int:=match l.findIdx? p with | some i=>(i:Int) | none=>-1
theorem yqiy {α:Type} (p:α→Bool) (l:List α):decide (idxI p l ≥ 0) = l.any p:=by
 unfold idxI
 cases h:l.findIdx? p with
 | some i =>
  have:=List.findIdx?_isSome (xs:=l) (p:=p)
  rw [h] at this
  show decide ((i:Int) ≥ 0) = _
  rw [decide_eq_true (by omega)]
  simpa using this
 | none =>
  have:=List.findIdx?_isSome (xs:=l) (p:=p)
  rw [h] at this
  simp at this ⊢
  intro x hx
  exact this x hx
def yeTy {α β:Type} (eq:β→α→Bool):Nat→List α→β→Int→Int→{R:Type}→(Int→Option R)→Option R→Option R
 | 0,_,_,_,_,_,_,_=>none
 | n + 1,v3,v6,v4,v5,_,e0,e1=>(bif (decide (v5 < v4)) then (get_ v3 v5 fun x8=>(bif (eq v6 x8) then e0 v5 else yeTy eq n v3 v6 v4 (w64 (v5 + 1)) e0 e1)) else e1)
theorem yliy {α β:Type} (eq:β→α→Bool) (v:β) (l:List α) (hl:l.length < 4611686018427387904):∀ (xs:List α) (n i:Nat),l.drop i = xs→xs.length < n→∀ (R:Type) (e0:Int→Option R) (e1:Option R),
  yeTy eq n l v (l.length:Int) (i:Int) e0 e1 = match xs.findIdx? (eq v) with | some j=>e0 ((i + j:Nat):Int) | none=>e1
 | _,0,_,_,h,_,_,_=>by omega
 | [],n + 1,i,h,_,_,_,_=>by rw [yeTy,ya6y h]; rfl
 | x :: xs,n + 1,i,h,hn,R,e0,e1=>by
  have h':=yavy h
  rw [yeTy,yaJy h]
  simp only [cond_true,yaWy h,List.findIdx?_cons]
  cases hq:eq v x with
  | true=>simp
  | false =>
   simp only [cond_false]
   rw [yazy (by omega),yliy eq v l hl xs n (i + 1) h'.2.2.1 (by simp at hn; omega) R e0 e1]
   cases xs.findIdx? (eq v) with
   | none=>rfl
   | some j=>simp; congr 1; omega
def ymsy {α β:Type} (N:Nat) (eq:β→α→Bool) (a1:List α) (a2:β) {R:Type} (k0:Int→Option R):Option R:=(yeTy eq N a1 a2 (a1.length:Int) 0 (fun e9=>k0 e9) (k0 (-1)))
theorem yyAy {α β:Type} {N:Nat} (eq:β→α→Bool) (v:β) (l:List α) (hN:l.length < N) (hN2:N≤4611686018427387904) {R:Type} (k:Int→Option R) :
  ymsy N eq l v k = k (idxI (eq v) l):=by
 unfold ymsy
 have h:=yliy eq v l (by omega) l N 0 rfl hN R (fun e9=>k e9) (k (-1))
 refine h.trans ?_
 unfold idxI
 cases l.findIdx? (eq v) with
 | none=>rfl
 | some j=>simp
def yecy {α σ:Type} (f:α→σ→{R:Type}→(Bool→σ→Option R)→Option R):Nat→List α→Int→Int→σ→{R:Type}→(Int→σ→Option R)→(σ→Option R)→Option R
 | 0,_,_,_,_,_,_,_=>none
 | n + 1,v3,v4,v5,v6,_,e0,e1=>(bif (decide (v5 < v4)) then (get_ v3 v5 fun x10=>(f x10 v6 (fun r11 r12=>(bif r11 then e0 v5 r12 else yecy f n v3 v4 (w64 (v5 + 1)) r12 e0 e1)))) else e1 v6)
theorem yk0y {α σ:Type} (f:α→σ→{R:Type}→(Bool→σ→Option R)→Option R) (p:α→Bool) (s:σ) (l:List α) (hf:∀ x ∈ l,∀ (R:Type) (k:Bool→σ→Option R),f x s k = k (p x) s) (hl:l.length < 4611686018427387904) :
  ∀ (xs:List α) (n i:Nat),l.drop i = xs→xs.length < n→∀ (R:Type) (e0:Int→σ→Option R) (e1:σ→Option R),
  yecy f n l (l.length:Int) (i:Int) s e0 e1 = match xs.findIdx? p with | some j=>e0 ((i + j:Nat):Int) s | none=>e1 s
 | _,0,_,_,h,_,_,_=>by omega
 | [],n + 1,i,h,_,_,_,_=>by rw [yecy,ya6y h]; rfl
 | x :: xs,n + 1,i,h,hn,R,e0,e1=>by
  have h':=yavy h
  rw [yecy,yaJy h]
  simp only [cond_true,yaWy h,List.findIdx?_cons,hf x (yd0y h)]
  cases hq:p x with
  | true=>simp
  | false =>
   simp only [cond_false]
   rw [yazy (by omega),yk0y f p s l hf hl xs n (i + 1) h'.2.2.1 (by simp at hn; omega) R e0 e1]
   cases xs.findIdx? p with
   | none=>rfl
   | some j=>simp; congr 1; omega
def ygOy {α σ:Type} (N:Nat) (f:α→σ→{R:Type}→(Bool→σ→Option R)→Option R) (a1:List α) (a2:σ) {R:Type} (k0:Int→σ→Option R):Option R:=(yecy f N a1 (a1.length:Int) 0 a2 (fun e9 e10=>k0 e9 e10) (fun e=>k0 (-1) e))
theorem yoOy {α σ:Type} {N:Nat} (f:α→σ→{R:Type}→(Bool→σ→Option R)→Option R) (p:α→Bool) (s:σ) (l:List α) (hf:∀ x ∈ l,∀ (R:Type) (k:Bool→σ→Option R),f x s k = k (p x) s) (hN:l.length < N) (hN2:N≤4611686018427387904) {R:Type} (k:Int→σ→Option R) :
  ygOy N f l s k = k (idxI p l) s:=by
 unfold ygOy
 have h:=yk0y f p s l hf (by omega) l N 0 rfl hN R (fun e9 e10=>k e9 e10) (fun e=>k (-1) e)
 refine h.trans ?_
 unfold idxI
 cases l.findIdx? p with
 | none=>rfl
 | some j=>simp
def yiJy {α:Type} (cmp:CmpT α):Nat→Int→Int→Int→Int→List α→{R:Type}→(Int→Int→Int→List α→Option R)→Option R
 | 0,_,_,_,_,_,_,_=>none
 | n + 1,v31,v32,v33,v34,v35,_,e0=>(bif (decide (v34 > v31)) then (inr v35 v34 (at_ v35 v34 fun x43=>(inr v35 (w64 (v34 - 1)) (at_ v35 (w64 (v34 - 1)) fun x44=>(cmp x43 x44 (fun r45=>(bif (decide (r45 < 0)) then (inr v35 (w64 (v34 - 1)) (at_ v35 (w64 (v34 - 1)) fun x46=>(inr v35 v34 (at_ v35 v34 fun x47=>(inr v35 v34 (at_ v35 v34 fun x48=>(inr (set_ v35 v34 x46) (w64 (v34 - 1)) (at_ (set_ v35 v34 x46) (w64 (v34 - 1)) fun x49=>yiJy cmp n v31 v32 v33 (w64 (v34 - 1)) (set_ (set_ v35 v34 x46) (w64 (v34 - 1)) x47) e0)))))))) else e0 v31 v32 v33 v35))))))) else e0 v31 v32 v33 v35)
def yfty {α:Type} (N:Nat) (cmp:CmpT α):Nat→Int→Int→Int→List α→{R:Type}→(List α→Option R)→Option R
 | 0,_,_,_,_,_,_=>none
 | n + 1,v4,v5,v6,v7,_,e0=>(bif (decide (v6 < v5)) then (yiJy cmp N v4 v5 v6 v6 v7 (fun e50 e51 e52 e53=>yfty N cmp n e50 e51 (w64 (e52 + 1)) e53 e0)) else e0 v7)
def sIns {α:Type} (N:Nat) (cmp:CmpT α) (a1:List α) (a2 a3:Int) {R:Type} (k0:List α→Option R):Option R :=
 (yfty N cmp N a2 a3 (w64 (a2 + 1)) a1 (fun e54=>k0 e54))
def ycCy {α:Type} (c:α→α→Int) (x:α):List α→List α
 | []=>[x]
 | y :: ys=>if c x y < 0 then y :: ycCy c x ys else x :: y :: ys
def ycGy {α:Type} (c:α→α→Int):List α→List α→List α
 | acc,[]=>acc
 | acc,x :: xs=>ycGy c (ycCy c x acc) xs
def sortI {α:Type} (c:α→α→Int) (l:List α):List α:=(ycGy c [] l).reverse
theorem ycDy {α:Type} (c:α→α→Int) (x:α):∀ l:List α,(ycCy c x l).Perm (x :: l)
 | []=>.refl _
 | y :: ys=>by
  unfold ycCy
  split
  ·exact ((ycDy c x ys).cons y).trans (List.Perm.swap x y ys)
  ·exact .refl _
theorem ykEy {α:Type} (c:α→α→Int):∀ (l acc:List α),(ycGy c acc l).Perm (acc ++ l)
 | [],acc=>by simp [ycGy]
 | x :: xs,acc=>by
  unfold ycGy
  refine (ykEy c xs _).trans ?_
  refine ((ycDy c x acc).append_right xs).trans ?_
  exact (List.perm_middle (l₁:=acc) (l₂:=xs) (a:=x)).symm
theorem yj6y {α:Type} (c:α→α→Int) (l:List α):(sortI c l).Perm l:=by
 unfold sortI
 exact (List.reverse_perm _).trans (by simpa using ykEy c l [])
theorem ylly {α:Type} (c:α→α→Int) (l:List α):(sortI c l).length = l.length:=(yj6y c l).length_eq
theorem yAyy {α:Type} {c:α→α→Int} {l:List α} {x:α}:x ∈ sortI c l ↔ x ∈ l:=(yj6y c l).mem_iff
theorem ykfy {α:Type} {c:α→α→Int} {S:α→Prop} (hp:Pre c S) (x:α) (hx:S x):∀ l:List α,(∀ y ∈ l,S y)→l.Pairwise (fun a b=>c b a≤0)→(ycCy c x l).Pairwise (fun a b=>c b a≤0)
 | [],_,_=>by simp [ycCy]
 | y :: ys,hS,h=>by
  have hy:S y:=hS y (by simp)
  have hys:∀ z ∈ ys,S z:=fun z hz=>hS z (by simp [hz])
  unfold ycCy
  have h':=List.pairwise_cons.1 h
  split
  ·rename_i hlt
   refine List.pairwise_cons.2 ⟨fun z hz=>?_,ykfy hp x hx ys hys h'.2⟩
   rcases List.mem_cons.1 ((ycDy c x ys).mem_iff.1 hz) with rfl | hz
   ·exact Int.le_of_lt hlt
   ·exact h'.1 z hz
  ·rename_i hlt
   have hyx:c y x≤0:=by
    rcases hp.total y x hy hx with h1 | h1
    ·exact h1
    ·have:=(hp.neg x y hx hy)
     by_cases h2:c y x≤0
     ·exact h2
     ·exact absurd (this.2 h2) hlt
   refine List.pairwise_cons.2 ⟨fun z hz=>?_,h⟩
   rcases List.mem_cons.1 hz with rfl | hz
   ·exact hyx
   ·exact hp.trans z y x (hys z hz) hy hx (h'.1 z hz) hyx
theorem yigy {α:Type} {c:α→α→Int} {S:α→Prop} (hp:Pre c S):∀ l acc:List α,(∀ y ∈ l,S y)→(∀ y ∈ acc,S y)→acc.Pairwise (fun a b=>c b a≤0)→(ycGy c acc l).Pairwise (fun a b=>c b a≤0)
 | [],_,_,_,h=>h
 | x :: xs,acc,h1,h2,h=>by
  unfold ycGy
  refine yigy hp xs _ (fun y hy=>h1 y (by simp [hy])) (fun y hy=>?_) (ykfy hp x (h1 x (by simp)) acc h2 h)
  rcases List.mem_cons.1 ((ycDy c x acc).mem_iff.1 hy) with rfl | hy
  ·exact h1 _ (by simp)
  ·exact h2 y hy
theorem ysJy {α:Type} {c:α→α→Int} {S:α→Prop} (hp:Pre c S) (l:List α) (h:∀ y ∈ l,S y):(sortI c l).Pairwise (fun a b=>c a b≤0):=by
 unfold sortI
 rw [List.pairwise_reverse]
 exact yigy hp l [] h (fun y hy=>by cases hy) List.Pairwise.nil
theorem yiFy {α:Type} (pre:List α) (a b:α) (post:List α):(pre ++ a :: post).set pre.length b = pre ++ b :: post:=by
 induction pre with
 | nil=>rfl
 | cons x xs ih=>simp [ih]
theorem yd3y {α:Type} (pre:List α) (a:α) (post:List α):(pre ++ a :: post)[pre.length]? = some a:=by simp
theorem yo9y {α:Type} (cmp:CmpT α) (c:α→α→Int) (S:α→Prop) (hc:∀ x y,S x→S y→∀ (R:Type) (k:Int→Option R),cmp x y k = k (c x y)) (x:α) (hx:S x) (b i:Int) :
  ∀ (rs post:List α) (n:Nat),(∀ y ∈ rs,S y)→rs.length < n→rs.length + post.length < 4611686018427387000→∀ (R:Type) (e0:Int→Int→Int→List α→Option R),
  yiJy cmp n 0 b i (rs.length:Int) (rs.reverse ++ x :: post) e0 = e0 0 b i ((ycCy c x rs).reverse ++ post)
 | _,_,0,_,h,_,_,_=>by omega
 | [],post,n + 1,_,_,_,R,e0=>by rw [yiJy]; simp [ycCy]
 | y :: ys,post,n + 1,hS,hn,hl,R,e0=>by
  have hy:S y:=hS y (by simp)
  have e1:w64 (((y :: ys).length:Nat) - 1:Int) = (ys.length:Int):=by
   rw [yaKy (by omega) (by simp at hl ⊢; omega)]; simp
  have hd:(y :: ys).reverse ++ x :: post = ys.reverse ++ y :: x :: post:=by simp
  have g1:(ys.reverse ++ y :: x :: post)[ys.length]? = some y:=by
   have:=yd3y ys.reverse y (x :: post); rwa [List.length_reverse] at this
  have hd2:ys.reverse ++ y :: x :: post = (ys.reverse ++ [y]) ++ x :: post:=by simp
  have g2:(ys.reverse ++ y :: x :: post)[ys.length + 1]? = some x:=by
   have:=yd3y (ys.reverse ++ [y]) x post
   rw [← hd2] at this; rwa [List.length_append,List.length_reverse] at this
  have len1:(ys.reverse ++ y :: x :: post).length = ys.length + 2 + post.length:=by simp; omega
  have s1:(ys.reverse ++ y :: x :: post).set (ys.length + 1) y = ys.reverse ++ y :: y :: post:=by
   have:=yiFy (ys.reverse ++ [y]) x y post
   rw [← hd2] at this
   rw [List.length_append,List.length_reverse] at this
   refine Eq.trans this ?_
   simp
  have s2:(ys.reverse ++ y :: y :: post).set ys.length x = ys.reverse ++ x :: y :: post:=by
   have:=yiFy ys.reverse y x (y :: post); rwa [List.length_reverse] at this
  have g3:(ys.reverse ++ y :: y :: post)[ys.length]? = some y:=by
   have:=yd3y ys.reverse y (y :: post); rwa [List.length_reverse] at this
  have c1:(((y :: ys).length:Nat):Int) = ((ys.length + 1:Nat):Int):=by simp
  rw [yiJy]
  rw [decide_eq_true (show (((y :: ys).length:Nat):Int) > 0 by simp)]
  simp only [cond_true,hd,e1]
  rw [c1]
  rw [ybdy (by omega),ybmy g2,ybdy (by omega),ybmy g1,hc x y hx hy]
  unfold ycCy
  by_cases hlt:c x y < 0
  ·rw [decide_eq_true hlt,if_pos hlt]
   simp only [cond_true]
   rw [ybdy (by omega),ybmy g1,ybdy (by omega),ybmy g2,ybdy (by omega),ybmy g2,ydhy,s1,ybdy (by simp),ybmy g3,ydhy,s2]
   rw [yo9y cmp c S hc x hx b i ys (y :: post) n (fun z hz=>hS z (by simp [hz])) (by simp at hn; omega) (by simp at hl ⊢; omega) R e0]
   simp
  ·rw [decide_eq_false hlt,if_neg hlt]
   simp
theorem yory {α:Type} (N:Nat) (cmp:CmpT α) (c:α→α→Int) (S:α→Prop) (hc:∀ x y,S x→S y→∀ (R:Type) (k:Int→Option R),cmp x y k = k (c x y)) (len:Nat) (hlen:len < 4611686018427380000) (hN:len < N) :
  ∀ (rest acc:List α) (n:Nat),(∀ y ∈ acc,S y)→(∀ y ∈ rest,S y)→acc.length + rest.length = len→rest.length < n→∀ (R:Type) (e0:List α→Option R),
  yfty N cmp n 0 (len:Int) (acc.length:Int) (acc.reverse ++ rest) e0 = e0 (ycGy c acc rest).reverse
 | _,_,0,_,_,_,h,_,_=>by omega
 | [],acc,n + 1,_,_,hl,_,R,e0=>by
  rw [yfty,decide_eq_false (by simp at hl; omega)]
  simp [ycGy]
 | x :: xs,acc,n + 1,hS,hS2,hl,hn,R,e0=>by
  have hx:S x:=hS2 x (by simp)
  have hlx:(ycCy c x acc).length = acc.length + 1:=by rw [(ycDy c x acc).length_eq]; simp
  rw [yfty,decide_eq_true (by simp at hl; omega)]
  simp only [cond_true]
  rw [yo9y cmp c S hc x hx (len:Int) (acc.length:Int) acc xs N hS (by simp at hl; omega) (by simp at hl; omega),yazy (by omega),← hlx]
  rw [yory N cmp c S hc len hlen hN xs (ycCy c x acc) n (fun y hy=>by
   rcases List.mem_cons.1 ((ycDy c x acc).mem_iff.1 hy) with rfl | hy
   ·exact hx
   ·exact hS y hy) (fun y hy=>hS2 y (by simp [hy])) (by simp at hl ⊢; omega) (by simp at hn; omega) R e0]
  rfl
theorem yxuy {α:Type} {N:Nat} {cmp:CmpT α} (c:α→α→Int) (S:α→Prop) (hc:∀ x y,S x→S y→∀ (R:Type) (k:Int→Option R),cmp x y k = k (c x y)) (l:List α) (hS:∀ y ∈ l,S y) (hN:l.length + 1 < N) (hN2:N≤4611686018427380000) {R:Type} (k:List α→Option R) :
  sIns N cmp l 0 (l.length:Int) k = k (sortI c l):=by
 unfold sIns
 rw [yaKy (by omega) (by omega)]
 cases l with
 | nil =>
  obtain ⟨m,rfl⟩:∃ m,N = m + 1:=⟨N - 1,by omega⟩
  rw [yfty]; simp [sortI,ycGy]
 | cons x xs =>
  have h:=yory N cmp c S hc (x :: xs).length (by omega) (by omega) xs [x] N (by simpa using hS x (by simp)) (fun y hy=>hS y (by simp [hy])) (by simp; omega) (by simp at hN; omega) R (fun e54=>k e54)
  simp only [List.length_singleton,List.reverse_singleton,List.singleton_append] at h
  exact h
theorem yCBy {α:Type} {N:Nat} {cmp:CmpT α} (l:List α) (a:Int) (h1:-1000000≤a) (h2:a≤1000000000) (hN:0 < N) {R:Type} (k:List α→Option R):sIns N cmp l a a k = k l:=by
 unfold sIns
 obtain ⟨m,rfl⟩:∃ m,N = m + 1:=⟨N - 1,by omega⟩
 rw [yaKy (by omega) (by omega),yfty,decide_eq_false (by omega)]
 rfl
end Go.Am
set_option linter.unusedVariables false
set_option linter.unusedSimpArgs false
set_option maxRecDepth 100000
namespace Go.Am
open Go
def ygNy {α:Type} (ins:List α→Int→Int→{R:Type}→(List α→Option R)→Option R):Nat→Int→Int→Int→Int→List α→{R:Type}→(Int→Int→Int→List α→Option R)→Option R
 | 0,_,_,_,_,_,_,_=>none
 | n + 1,v3,v4,v5,v6,v7,_,e0=>(bif (decide (v6≤v3)) then (ins v7 v5 v6 (fun r9=>ygNy ins n v3 v4 v6 (w64 (v6 + v4)) r9 e0)) else e0 v3 v4 v5 v7)
theorem yyty {α:Type} {N M:Nat} {cmp:CmpT α} (c:α→α→Int) (S:α→Prop) (hc:∀ x y,S x→S y→∀ (R:Type) (k:Int→Option R),cmp x y k = k (c x y)) (l:List α) (hS:∀ y ∈ l,S y) (hl:l.length≤20) (hN:1000≤N) (hN2:N≤4611686018427380000) {R:Type} (e0:Int→Int→Int→List α→Option R)
  (ins:List α→Int→Int→{R:Type}→(List α→Option R)→Option R) (hi:∀ l a b (R:Type) (k:List α→Option R),ins l a b k = sIns N cmp l a b k) :
  (ygNy ins (M + 3) (l.length:Int) 20 0 20 l e0 = if l.length = 20 then e0 (l.length:Int) 20 20 (sortI c l) else e0 (l.length:Int) 20 0 l):=by
 rw [ygNy]
 by_cases h:l.length = 20
 ·rw [decide_eq_true (by omega),if_pos h]
  simp only [cond_true,hi]
  have h20:(20:Int) = (l.length:Int):=by omega
  have e1:=yxuy (N:=N) c S hc l hS (by omega) hN2 (fun r9=>ygNy ins (M + 2) (l.length:Int) 20 20 (w64 (20 + 20)) r9 e0)
  rw [← h20] at e1
  rw [← h20,e1,ygNy,yaKy (by omega) (by omega),decide_eq_false (by omega)]
  rfl
 ·rw [decide_eq_false (by omega),if_neg h]
  rfl
def yEly {α:Type}:Nat→Int→Int→Int→Int→List α→{R:Type}→(Int→Int→Int→List α→Option R)→Option R
 | 0,_,_,_,_,_,_,_=>none
 | n + 1,v30,v31,v32,v33,v34,_,e0=>(bif (decide (v33≤v30)) then none else e0 v30 v31 v32 v34)
def yl3y {α:Type} (N:Nat):Nat→Int→Int→List α→{R:Type}→(List α→Option R)→Option R
 | 0,_,_,_,_,_=>none
 | n + 1,v15,v16,v17,_,e0=>(bif (decide (v16 < v15)) then (yEly N v15 v16 0 (w64 (2 * v16)) v17 (fun e37 e38 e39 e40=>(bif (decide ((w64 (e39 + e38)) < e37)) then none else yl3y N n e37 (w64 (e38 * 2)) e40 e0))) else e0 v17)
def sSta {α:Type} (N:Nat) (ins:List α→Int→Int→{R:Type}→(List α→Option R)→Option R) (a1:List α) (a2:Int) {R:Type} (k0:List α→Option R):Option R :=
 (ygNy ins N a2 20 0 20 a1 (fun e10 e11 e12 e13=>(ins e13 e12 e10 (fun r14=>(yl3y N N e10 e11 r14 (fun e42=>k0 e42))))))
theorem yGny {α:Type} {N:Nat} {cmp:CmpT α} (c:α→α→Int) (S:α→Prop) (hc:∀ x y,S x→S y→∀ (R:Type) (k:Int→Option R),cmp x y k = k (c x y)) (l:List α) (hS:∀ y ∈ l,S y) (hl:l.length≤20) (hN:1000≤N) (hN2:N≤4611686018427380000) (ins:List α→Int→Int→{R:Type}→(List α→Option R)→Option R) (hi:∀ l a b (R:Type) (k:List α→Option R),ins l a b k = sIns N cmp l a b k) {R:Type} (k:List α→Option R) :
  sSta N ins l (l.length:Int) k = k (sortI c l):=by
 obtain ⟨m,rfl⟩:∃ m,N = m + 3:=⟨N - 3,by omega⟩
 unfold sSta
 rw [yyty (N:=m + 3) c S hc l hS hl hN hN2 _ ins hi]
 simp only [hi]
 have h7:∀ r:List α,yl3y (m + 3) (m + 3) (l.length:Int) 20 r k = k r:=fun r=>by
  rw [yl3y,decide_eq_false (by omega)]; rfl
 split
 ·rename_i h
  have h20:(l.length:Int) = 20:=by omega
  rw [h20] at h7 ⊢
  rw [yCBy _ _ (by omega) (by omega) (by omega)]
  exact h7 _
 ·rw [yxuy c S hc l hS (by omega) hN2]
  exact h7 _
def yb4y {α:Type} (eq:α→α→Bool):α→List α→List α
 | _,[]=>[]
 | p,y :: ys=>if eq y p then yb4y eq y ys else y :: yb4y eq y ys
def yjqy {α:Type} (eq:α→α→Bool):List α→List α
 | []=>[]
 | x :: xs=>x :: yb4y eq x xs
theorem ygly {α:Type} (eq:α→α→Bool):∀ (l:List α) (p x:α),x ∈ yb4y eq p l→x ∈ l
 | [],_,_,h=>by cases h
 | y :: ys,p,x,h=>by
  unfold yb4y at h
  split at h
  ·exact List.mem_cons_of_mem _ (ygly eq ys y x h)
  ·rcases List.mem_cons.1 h with rfl | h
   ·exact List.mem_cons_self
   ·exact List.mem_cons_of_mem _ (ygly eq ys y x h)
theorem ytIy {α:Type} {eq:α→α→Bool} {l:List α} {x:α} (h:x ∈ yjqy eq l):x ∈ l:=by
 cases l with
 | nil=>cases h
 | cons y ys =>
  rcases List.mem_cons.1 h with rfl | h
  ·exact List.mem_cons_self
  ·exact List.mem_cons_of_mem _ (ygly eq ys y x h)
def yqHy {α:Type}:Nat→List (List α)→Int→List (List α)→Int→Int→{R:Type}→(List (List α)→Int→Option R)→Option R
 | 0,_,_,_,_,_,_,_=>none
 | n + 1,v2,v3,v4,v5,v6,_,e0=>(bif (decide (v6 < v5)) then (get_ v4 v6 fun x8=>(bif (decide ((w64 (v3 + (x8.length:Int))) < 0)) then none else yqHy n v2 (w64 (v3 + (x8.length:Int))) v4 v5 (w64 (v6 + 1)) e0)) else e0 v2 v3)
def ynFy {α:Type} (by_:Nat):Nat→List (List α)→Int→Int→List α→{R:Type}→(List α→Option R)→Option R
 | 0,_,_,_,_,_,_=>none
 | n + 1,v12,v13,v14,v15,_,e0=>(bif (decide (v14 < v13)) then (get_ v12 v14 fun x17=>(bif (decide ((v15.length + x17.length) * by_≤yady)) then ynFy by_ n v12 v13 (w64 (v14 + 1)) (v15 ++ x17) e0 else none)) else e0 v15)
def sCat {α:Type} (N by_:Nat) (gr:Int→{R:Type}→(List α→Option R)→Option R) (a1:List (List α)) {R:Type} (k0:List α→Option R):Option R :=
 (yqHy N a1 0 a1 (a1.length:Int) 0 (fun e9 e10=>(gr e10 (fun r11=>(ynFy by_ N e9 (e9.length:Int) 0 r11 (fun e18=>k0 e18))))))
theorem yDiy {α:Type} {N by_:Nat} (a b:List α) (ha:a.length≤100000) (hb:b.length≤100000) (hby:by_≤10000) (hN:10≤N) {R:Type} (k:List α→Option R):sCat N by_ (ygey by_) [a,b] k = k (a ++ b):=by
 obtain ⟨m,rfl⟩:∃ m,N = m + 4:=⟨N - 4,by omega⟩
 have p1:(a.length + b.length) * by_≤2000000000:=Nat.le_trans (Nat.mul_le_mul (show a.length + b.length≤200000 by omega) hby) (by omega)
 have p2:a.length * by_≤2000000000:=Nat.le_trans (Nat.mul_le_mul (show a.length≤200000 by omega) hby) (by omega)
 have e1:w64 (0 + (a.length:Int)) = (a.length:Int):=by rw [yaKy (by omega) (by omega)]; omega
 have e2:w64 ((a.length:Int) + (b.length:Int)) = ((a.length + b.length:Nat):Int):=by rw [yaKy (by omega) (by omega)]; omega
 have e3:w64 (0 + 1) = ((1:Nat):Int):=by rw [yaKy (by omega) (by omega)]; rfl
 have e4:w64 (((1:Nat):Int) + 1) = ((2:Nat):Int):=by rw [yaKy (by omega) (by omega)]; rfl
 have g0:∀ {R:Type} (k:List α→Option R),get_ [a,b] 0 k = k a:=fun k=>ydfy (i:=0) rfl k
 have g1:∀ {R:Type} (k:List α→Option R),get_ [a,b] ((1:Nat):Int) k = k b:=fun k=>ydfy (i:=1) rfl k
 unfold sCat
 simp only [yqHy,ynFy,g0,g1,e1,e2,e3,e4]
 have l2:(([a,b]:List (List α)).length:Int) = 2:=rfl
 have d0:decide ((a.length:Int) < 0) = false:=decide_eq_false (by omega)
 have d1:decide (((a.length + b.length:Nat):Int) < 0) = false:=decide_eq_false (by omega)
 have d2:decide ((0:Int) < 2) = true:=rfl
 have d3:decide (((1:Nat):Int) < 2) = true:=rfl
 have d4:decide (((2:Nat):Int) < 2) = false:=rfl
 rw [l2,d2,d3,d4,d0,d1]
 simp only [cond_true,cond_false,ygey]
 rw [show (decide (0≤((a.length + b.length:Nat):Int)) && (decide (((a.length + b.length:Nat):Int).toNat * by_≤140737488355328) && decide (((a.length + b.length:Nat):Int)≤4611686018427387904))) = true by
  rw [Int.toNat_natCast]; simp; omega]
 simp only [cond_true,List.length_nil,List.nil_append,Nat.zero_add,l2]
 rw [decide_eq_true (show a.length * by_≤yady by unfold yady; omega),decide_eq_true (show (a.length + b.length) * by_≤yady by unfold yady; omega)]
 rfl
theorem yyLy {α:Type} {by_:Nat} (l:List α) (hl:l.length≤1000000) (hby:by_≤10000) {R:Type} (k:List α→Option R):yfpy by_ l k = k l:=by
 have p1:l.length * by_≤10000000000:=Nat.le_trans (Nat.mul_le_mul hl hby) (by omega)
 unfold yfpy
 rw [decide_eq_true (show l.length * by_≤140737488355328 by omega),decide_eq_true (show l.length≤maxLen by unfold maxLen; omega)]
 rfl
theorem room1 {α:Type} (l:List α) (x:α) (by_:Nat) (hl:l.length≤1000000) (hby:by_≤10000):decide ((l.length + [x].length) * by_≤yady) = true:=by
 have p1:(l.length + [x].length) * by_≤1000001 * 10000:=Nat.mul_le_mul (by simp; omega) hby
 exact decide_eq_true (by unfold yady; omega)
end Go.Am
