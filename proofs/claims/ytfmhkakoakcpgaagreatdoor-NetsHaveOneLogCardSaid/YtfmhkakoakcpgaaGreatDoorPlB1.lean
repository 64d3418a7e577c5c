/- The plain law, in Lean alone: B1, B2, B3. No condition: lemmas for the claim. -/
import Derived.Test.YtfmhkakoakcpgaaGreatDoorAmPrint
set_option linter.unusedVariables false
set_option linter.unusedSimpArgs false
set_option maxRecDepth 100000
namespace Go.Am
open Go
theorem yaGy {x:Int} (h1:-9223372036854775808≤x) (h2:x≤9223372036854775807):w64 x = x:=by
 unfold w64 IntKind.wrap
 simp [IntKind.bits,IntKind.signed]
 omega
theorem yary {i:Nat} (h:i < 4611686018427387904):w64 ((i:Int) + 1) = ((i + 1:Nat):Int):=by
 rw [yaGy (by omega) (by omega)]; omega
theorem yuRy {i:Nat} (h:i < 4611686018427387904) (h0:0 < i):w64 ((i:Int) - 1) = ((i - 1:Nat):Int):=by
 rw [yaGy (by omega) (by omega)]; omega
theorem ybTy {α:Type} {l:List α} {i:Nat} {x:α} (h:l[i]? = some x) {R:Type} (k:α→Option R):at_ l (i:Int) k = k x:=by
 unfold at_; rw [Int.toNat_natCast,h]
theorem yqHy {α:Type} {l:List α} {i:Int} {x:α} (h:l[i.toNat]? = some x) {R:Type} (k:α→Option R):at_ l i k = k x:=by
 unfold at_; rw [h]
theorem ynly {α:Type} {l:List α} {i:Nat} {x:α} (h:l[i]? = some x) {R:Type} (k:α→Option R):get_ l (i:Int) k = k x:=by
 unfold get_; rw [ybTy h]; simp
theorem ybLy {α:Type} {l:List α} {i:Nat} (h:i < l.length) {R:Type} (k:Option R):inr l (i:Int) k = k:=by
 unfold inr; rw [decide_eq_true (show 0≤(i:Int) by omega),decide_eq_true (show (i:Int) < (l.length:Int) by omega)]; rfl
theorem yjpy {α:Type} {l:List α} {i:Nat} {x:α}:set_ l (i:Int) x = l.set i x:=by unfold set_; rw [Int.toNat_natCast]
theorem yapy {α:Type} {l:List α} {i:Nat} {x:α} {xs:List α} (h:l.drop i = x :: xs):l[i]? = some x∧i < l.length∧l.drop (i + 1) = xs∧l.length = i + 1 + xs.length:=by
 have h1:l[i]? = some x:=by
  have:=congrArg (fun t=>t[0]?) h
  simpa [List.getElem?_drop] using this
 have h2:i < l.length:=by
  rcases Nat.lt_or_ge i l.length with h2 | h2
  ·exact h2
  ·rw [List.getElem?_eq_none h2] at h1; cases h1
 have h3:=congrArg List.length h
 simp at h3
 refine ⟨h1,h2,?_,by omega⟩
 rw [← List.drop_drop,h]; rfl
theorem yoQy {α:Type} {l:List α} {i:Nat} (h:l.drop i = []):l.length≤i:=by
 have:=congrArg List.length h
 simp at this; omega
theorem yaAy {α:Type} {l:List α} {i:Nat} {x:α} {xs:List α} (h:l.drop i = x :: xs):decide ((i:Int) < (l.length:Int)) = true:=by
 have:=(yapy h).2.1; exact decide_eq_true (by omega)
theorem yaOy {α:Type} {l:List α} {i:Nat} (h:l.drop i = []):decide ((i:Int) < (l.length:Int)) = false:=by
 have:=yoQy h; exact decide_eq_false (by omega)
theorem yaZy {α:Type} {l:List α} {i:Nat} {x:α} {xs:List α} (h:l.drop i = x :: xs) {R:Type} (k:α→Option R):get_ l (i:Int) k = k x:=ynly (yapy h).1 k
theorem ycpy {α:Type} {l:List α} {i:Nat} {x:α} {xs:List α} (h:l.drop i = x :: xs) {R:Type} (k:α→Option R):at_ l (i:Int) k = k x:=ybTy (yapy h).1 k
theorem yb1y {α:Type} {l:List α} {i:Nat} {x:α} {xs:List α} (h:l.drop i = x :: xs) {R:Type} (k:Option R):inr l (i:Int) k = k:=ybLy (yapy h).2.1 k
theorem yiFy {α:Type} {l:List α} {i:Nat} {p:α} {xs:List α} (h:l.drop (i - 1) = p :: xs) (h0:0 < i) (hl:l.length < 4611686018427387904) {R:Type} (k:α→Option R):get_ l (w64 ((i:Int) - 1)) k = k p:=by
 have:=(yapy h).2.1
 rw [yuRy (by omega) h0]; exact yaZy h k
theorem ybNy {α:Type} {l:List α} {i:Nat} {x:α} {xs:List α} (h:l.drop i = x :: xs):x ∈ l:=List.mem_of_getElem? (yapy h).1
end Go.Am
set_option linter.unusedVariables false
set_option linter.unusedSimpArgs false
set_option maxRecDepth 100000
namespace Go.Am
open Go
def ygMy {α:Type} (ne:α→α→Bool):Nat→List α→List α→Int→Int→{R:Type}→(Bool→Option R)→Option R→Option R
 | 0,_,_,_,_,_,_,_=>none
 | n + 1,v3,v4,v5,v6,_,e0,e1=>(bif (decide (v6 < v5)) then (get_ v3 v6 fun x9=>(get_ v4 v6 fun x10=>(bif (ne x9 x10) then e0 false else ygMy ne n v3 v4 v5 (w64 (v6 + 1)) e0 e1))) else e1)
def yp6y {α:Type} (N:Nat) (ne:α→α→Bool) (a b:List α) {R:Type} (k0:Bool→Option R):Option R :=
 (bif ((a.length:Int) != (b.length:Int)) then k0 false else (ygMy ne N a b (a.length:Int) 0 (fun e11=>k0 e11) (k0 true)))
theorem yoxy {α:Type} (ne:α→α→Bool) (l:List α) (hl:l.length < 4611686018427387904) (hne:∀ x,ne x x = false):∀ (xs:List α) (n i:Nat),l.drop i = xs→xs.length < n→∀ (R:Type) (e0:Bool→Option R) (e1:Option R),ygMy ne n l l (l.length:Int) (i:Int) e0 e1 = e1
 | _,0,_,_,h,_,_,_=>by omega
 | [],n + 1,i,h,_,_,_,_=>by rw [ygMy,yaOy h]; rfl
 | x :: xs,n + 1,i,h,hn,R,e0,e1=>by
  have h':=yapy h
  rw [ygMy,yaAy h]
  simp only [cond_true,yaZy h,hne,cond_false]
  rw [yary (by omega)]
  exact yoxy ne l hl hne xs n (i + 1) h'.2.2.1 (by simp at hn; omega) R e0 e1
theorem yxfy {α:Type} {N:Nat} {ne:α→α→Bool} {l:List α} (hN:l.length < N) (hN2:N≤4611686018427387904) (hne:∀ x,ne x x = false) {R:Type} (k:Bool→Option R):yp6y N ne l l k = k true:=by
 unfold yp6y
 have h:=yoxy ne l (by omega) hne l N 0 rfl hN R (fun e11=>k e11) (k true)
 simp only [bne_self_eq_false,cond_false]
 exact h
def idxI {α:Type} (p:α→Bool) (l:List α):Int:=match l.findIdx? p with | some i=>(i:Int) | none=>-1
theorem yrKy {α:Type} (p:α→Bool) (l:List α):decide (idxI p l ≥ 0) = l.any p:=by
 unfold idxI
 cases h:l.findIdx? p with
 | some i =>
  have:=List.findIdx?_isSome (xs:=l) (p:=p)
  rw [h] at this
  show decide ((i:Int) ≥ 0) = _
  rw [decide_eq_true (by omega)]
  simpa using this
 | none =>
  have:=List.findIdx?_isSome (xs:=l) (p:=p)
  rw [h] at this
  simp at this ⊢
  intro x hx
  exact this x hx
def yfJy {α β:Type} (eq:β→α→Bool):Nat→List α→β→Int→Int→{R:Type}→(Int→Option R)→Option R→Option R
 | 0,_,_,_,_,_,_,_=>none
 | n + 1,v3,v6,v4,v5,_,e0,e1=>(bif (decide (v5 < v4)) then (get_ v3 v5 fun x8=>(bif (eq v6 x8) then e0 v5 else yfJy eq n v3 v6 v4 (w64 (v5 + 1)) e0 e1)) else e1)
theorem ylKy {α β:Type} (eq:β→α→Bool) (v:β) (l:List α) (hl:l.length < 4611686018427387904):∀ (xs:List α) (n i:Nat),l.drop i = xs→xs.length < n→∀ (R:Type) (e0:Int→Option R) (e1:Option R),
  yfJy eq n l v (l.length:Int) (i:Int) e0 e1 = match xs.findIdx? (eq v) with | some j=>e0 ((i + j:Nat):Int) | none=>e1
 | _,0,_,_,h,_,_,_=>by omega
 | [],n + 1,i,h,_,_,_,_=>by rw [yfJy,yaOy h]; rfl
 | x :: xs,n + 1,i,h,hn,R,e0,e1=>by
  have h':=yapy h
  rw [yfJy,yaAy h]
  simp only [cond_true,yaZy h,List.findIdx?_cons]
  cases hq:eq v x with
  | true=>simp
  | false =>
   simp only [cond_false]
   rw [yary (by omega),ylKy eq v l hl xs n (i + 1) h'.2.2.1 (by simp at hn; omega) R e0 e1]
   cases xs.findIdx? (eq v) with
   | none=>rfl
   | some j=>simp; congr 1; omega
def yngy {α β:Type} (N:Nat) (eq:β→α→Bool) (a1:List α) (a2:β) {R:Type} (k0:Int→Option R):Option R:=(yfJy eq N a1 a2 (a1.length:Int) 0 (fun e9=>k0 e9) (k0 (-1)))
theorem yBhy {α β:Type} {N:Nat} (eq:β→α→Bool) (v:β) (l:List α) (hN:l.length < N) (hN2:N≤4611686018427387904) {R:Type} (k:Int→Option R) :
  yngy N eq l v k = k (idxI (eq v) l):=by
 unfold yngy
 have h:=ylKy eq v l (by omega) l N 0 rfl hN R (fun e9=>k e9) (k (-1))
 refine h.trans ?_
 unfold idxI
 cases l.findIdx? (eq v) with
 | none=>rfl
 | some j=>simp
def yfMy {α σ:Type} (f:α→σ→{R:Type}→(Bool→σ→Option R)→Option R):Nat→List α→Int→Int→σ→{R:Type}→(Int→σ→Option R)→(σ→Option R)→Option R
 | 0,_,_,_,_,_,_,_=>none
 | n + 1,v3,v4,v5,v6,_,e0,e1=>(bif (decide (v5 < v4)) then (get_ v3 v5 fun x10=>(f x10 v6 (fun r11 r12=>(bif r11 then e0 v5 r12 else yfMy f n v3 v4 (w64 (v5 + 1)) r12 e0 e1)))) else e1 v6)
theorem ymny {α σ:Type} (f:α→σ→{R:Type}→(Bool→σ→Option R)→Option R) (p:α→Bool) (s:σ) (l:List α) (hf:∀ x ∈ l,∀ (R:Type) (k:Bool→σ→Option R),f x s k = k (p x) s) (hl:l.length < 4611686018427387904) :
  ∀ (xs:List α) (n i:Nat),l.drop i = xs→xs.length < n→∀ (R:Type) (e0:Int→σ→Option R) (e1:σ→Option R),
  yfMy f n l (l.length:Int) (i:Int) s e0 e1 = match xs.findIdx? p with | some j=>e0 ((i + j:Nat):Int) s | none=>e1 s
 | _,0,_,_,h,_,_,_=>by omega
 | [],n + 1,i,h,_,_,_,_=>by rw [yfMy,yaOy h]; rfl
 | x :: xs,n + 1,i,h,hn,R,e0,e1=>by
  have h':=yapy h
  rw [yfMy,yaAy h]
  simp only [cond_true,yaZy h,List.findIdx?_cons,hf x (ybNy h)]
  cases hq:p x with
  | true=>simp
  | false =>
   simp only [cond_false]
   rw [yary (by omega),ymny f p s l hf hl xs n (i + 1) h'.2.2.1 (by simp at hn; omega) R e0 e1]
   cases xs.findIdx? p with
   | none=>rfl
   | some j=>simp; congr 1; omega
def yhFy {α σ:Type} (N:Nat) (f:α→σ→{R:Type}→(Bool→σ→Option R)→Option R) (a1:List α) (a2:σ) {R:Type} (k0:Int→σ→Option R):Option R:=(yfMy f N a1 (a1.length:Int) 0 a2 (fun e9 e10=>k0 e9 e10) (fun e=>k0 (-1) e))
theorem yqYy {α σ:Type} {N:Nat} (f:α→σ→{R:Type}→(Bool→σ→Option R)→Option R) (p:α→Bool) (s:σ) (l:List α) (hf:∀ x ∈ l,∀ (R:Type) (k:Bool→σ→Option R),f x s k = k (p x) s) (hN:l.length < N) (hN2:N≤4611686018427387904) {R:Type} (k:Int→σ→Option R) :
  yhFy N f l s k = k (idxI p l) s:=by
 unfold yhFy
 have h:=ymny f p s l hf (by omega) l N 0 rfl hN R (fun e9 e10=>k e9 e10) (fun e=>k (-1) e)
 refine h.trans ?_
 unfold idxI
 cases l.findIdx? p with
 | none=>rfl
 | some j=>simp
def yjay {α:Type} (cmp:CmpT α):Nat→Int→Int→Int→Int→List α→{R:Type}→(Int→Int→Int→List α→Option R)→Option R
 | 0,_,_,_,_,_,_,_=>none
 | n + 1,v31,v32,v33,v34,v35,_,e0=>(bif (decide (v34 > v31)) then (inr v35 v34 (at_ v35 v34 fun x43=>(inr v35 (w64 (v34 - 1)) (at_ v35 (w64 (v34 - 1)) fun x44=>(cmp x43 x44 (fun r45=>(bif (decide (r45 < 0)) then (inr v35 (w64 (v34 - 1)) (at_ v35 (w64 (v34 - 1)) fun x46=>(inr v35 v34 (at_ v35 v34 fun x47=>(inr v35 v34 (at_ v35 v34 fun x48=>(inr (set_ v35 v34 x46) (w64 (v34 - 1)) (at_ (set_ v35 v34 x46) (w64 (v34 - 1)) fun x49=>yjay cmp n v31 v32 v33 (w64 (v34 - 1)) (set_ (set_ v35 v34 x46) (w64 (v34 - 1)) x47) e0)))))))) else e0 v31 v32 v33 v35))))))) else e0 v31 v32 v33 v35)
def ygby {α:Type} (N:Nat) (cmp:CmpT α):Nat→Int→Int→Int→List α→{R:Type}→(List α→Option R)→Option R
 | 0,_,_,_,_,_,_=>none
 | n + 1,v4,v5,v6,v7,_,e0=>(bif (decide (v6 < v5)) then (yjay cmp N v4 v5 v6 v6 v7 (fun e50 e51 e52 e53=>ygby N cmp n e50 e51 (w64 (e52 + 1)) e53 e0)) else e0 v7)
def sIns {α:Type} (N:Nat) (cmp:CmpT α) (a1:List α) (a2 a3:Int) {R:Type} (k0:List α→Option R):Option R :=
 (ygby N cmp N a2 a3 (w64 (a2 + 1)) a1 (fun e54=>k0 e54))
def ycZy {α:Type} (c:α→α→Int) (x:α):List α→List α
 | []=>[x]
 | y :: ys=>if c x y < 0 then y :: ycZy c x ys else x :: y :: ys
def ydgy {α:Type} (c:α→α→Int):List α→List α→List α
 | acc,[]=>acc
 | acc,x :: xs=>ydgy c (ycZy c x acc) xs
def sortI {α:Type} (c:α→α→Int) (l:List α):List α:=(ydgy c [] l).reverse
theorem ydhy {α:Type} (c:α→α→Int) (x:α):∀ l:List α,(ycZy c x l).Perm (x :: l)
 | []=>.refl _
 | y :: ys=>by
  unfold ycZy
  split
  ·exact ((ydhy c x ys).cons y).trans (List.Perm.swap x y ys)
  ·exact .refl _
theorem ymDy {α:Type} (c:α→α→Int):∀ (l acc:List α),(ydgy c acc l).Perm (acc ++ l)
 | [],acc=>by simp [ydgy]
 | x :: xs,acc=>by
  unfold ydgy
  refine (ymDy c xs _).trans ?_
  refine ((ydhy c x acc).append_right xs).trans ?_
  exact (List.perm_middle (l₁:=acc) (l₂:=xs) (a:=x)).symm
theorem yhqy {α:Type} (c:α→α→Int) (l:List α):(sortI c l).Perm l:=by
 unfold sortI
 exact (List.reverse_perm _).trans (by simpa using ymDy c l [])
theorem ymxy {α:Type} (c:α→α→Int) (l:List α):(sortI c l).length = l.length:=(yhqy c l).length_eq
theorem ysZy {α:Type} {c:α→α→Int} {l:List α} {x:α}:x ∈ sortI c l ↔ x ∈ l:=(yhqy c l).mem_iff
theorem yloy {α:Type} {c:α→α→Int} {S:α→Prop} (hp:Pre c S) (x:α) (hx:S x):∀ l:List α,(∀ y ∈ l,S y)→l.Pairwise (fun a b=>c b a≤0)→(ycZy c x l).Pairwise (fun a b=>c b a≤0)
 | [],_,_=>by simp [ycZy]
 | y :: ys,hS,h=>by
  have hy:S y:=hS y (by simp)
  have hys:∀ z ∈ ys,S z:=fun z hz=>hS z (by simp [hz])
  unfold ycZy
  have h':=List.pairwise_cons.1 h
  split
  ·rename_i hlt
   refine List.pairwise_cons.2 ⟨fun z hz=>?_,yloy hp x hx ys hys h'.2⟩
   rcases List.mem_cons.1 ((ydhy c x ys).mem_iff.1 hz) with rfl | hz
   ·exact Int.le_of_lt hlt
   ·exact h'.1 z hz
  ·rename_i hlt
   have hyx:c y x≤0:=by
    rcases hp.total y x hy hx with h1 | h1
    ·exact h1
    ·have:=(hp.neg x y hx hy)
     by_cases h2:c y x≤0
     ·exact h2
     ·exact absurd (this.2 h2) hlt
   refine List.pairwise_cons.2 ⟨fun z hz=>?_,h⟩
   rcases List.mem_cons.1 hz with rfl | hz
   ·exact hyx
   ·exact hp.trans z y x (hys z hz) hy hx (h'.1 z hz) hyx
theorem yj3y {α:Type} {c:α→α→Int} {S:α→Prop} (hp:Pre c S):∀ l acc:List α,(∀ y ∈ l,S y)→(∀ y ∈ acc,S y)→acc.Pairwise (fun a b=>c b a≤0)→(ydgy c acc l).Pairwise (fun a b=>c b a≤0)
 | [],_,_,_,h=>h
 | x :: xs,acc,h1,h2,h=>by
  unfold ydgy
  refine yj3y hp xs _ (fun y hy=>h1 y (by simp [hy])) (fun y hy=>?_) (yloy hp x (h1 x (by simp)) acc h2 h)
  rcases List.mem_cons.1 ((ydhy c x acc).mem_iff.1 hy) with rfl | hy
  ·exact h1 _ (by simp)
  ·exact h2 y hy
theorem yudy {α:Type} {c:α→α→Int} {S:α→Prop} (hp:Pre c S) (l:List α) (h:∀ y ∈ l,S y):(sortI c l).Pairwise (fun a b=>c a b≤0):=by
 unfold sortI
 rw [List.pairwise_reverse]
 exact yj3y hp l [] h (fun y hy=>by cases hy) List.Pairwise.nil
theorem yjvy {α:Type} (pre:List α) (a b:α) (post:List α):(pre ++ a :: post).set pre.length b = pre ++ b :: post:=by
 induction pre with
 | nil=>rfl
 | cons x xs ih=>simp [ih]
theorem yeMy {α:Type} (pre:List α) (a:α) (post:List α):(pre ++ a :: post)[pre.length]? = some a:=by simp
theorem ypFy {α:Type} (cmp:CmpT α) (c:α→α→Int) (S:α→Prop) (hc:∀ x y,S x→S y→∀ (R:Type) (k:Int→Option R),cmp x y k = k (c x y)) (x:α) (hx:S x) (b i:Int) :
  ∀ (rs post:List α) (n:Nat),(∀ y ∈ rs,S y)→rs.length < n→rs.length + post.length < 4611686018427387000→∀ (R:Type) (e0:Int→Int→Int→List α→Option R),
  yjay cmp n 0 b i (rs.length:Int) (rs.reverse ++ x :: post) e0 = e0 0 b i ((ycZy c x rs).reverse ++ post)
 | _,_,0,_,h,_,_,_=>by omega
 | [],post,n + 1,_,_,_,R,e0=>by rw [yjay]; simp [ycZy]
 | y :: ys,post,n + 1,hS,hn,hl,R,e0=>by
  have hy:S y:=hS y (by simp)
  have e1:w64 (((y :: ys).length:Nat) - 1:Int) = (ys.length:Int):=by
   rw [yaGy (by omega) (by simp at hl ⊢; omega)]; simp
  have hd:(y :: ys).reverse ++ x :: post = ys.reverse ++ y :: x :: post:=by simp
  have g1:(ys.reverse ++ y :: x :: post)[ys.length]? = some y:=by
   have:=yeMy ys.reverse y (x :: post); rwa [List.length_reverse] at this
  have hd2:ys.reverse ++ y :: x :: post = (ys.reverse ++ [y]) ++ x :: post:=by simp
  have g2:(ys.reverse ++ y :: x :: post)[ys.length + 1]? = some x:=by
   have:=yeMy (ys.reverse ++ [y]) x post
   rw [← hd2] at this; rwa [List.length_append,List.length_reverse] at this
  have len1:(ys.reverse ++ y :: x :: post).length = ys.length + 2 + post.length:=by simp; omega
  have s1:(ys.reverse ++ y :: x :: post).set (ys.length + 1) y = ys.reverse ++ y :: y :: post:=by
   have:=yjvy (ys.reverse ++ [y]) x y post
   rw [← hd2] at this
   rw [List.length_append,List.length_reverse] at this
   refine Eq.trans this ?_
   simp
  have s2:(ys.reverse ++ y :: y :: post).set ys.length x = ys.reverse ++ x :: y :: post:=by
   have:=yjvy ys.reverse y x (y :: post); rwa [List.length_reverse] at this
  have g3:(ys.reverse ++ y :: y :: post)[ys.length]? = some y:=by
   have:=yeMy ys.reverse y (y :: post); rwa [List.length_reverse] at this
  have c1:(((y :: ys).length:Nat):Int) = ((ys.length + 1:Nat):Int):=by simp
  rw [yjay]
  rw [decide_eq_true (show (((y :: ys).length:Nat):Int) > 0 by simp)]
  simp only [cond_true,hd,e1]
  rw [c1]
  rw [ybLy (by omega),ybTy g2,ybLy (by omega),ybTy g1,hc x y hx hy]
  unfold ycZy
  by_cases hlt:c x y < 0
  ·rw [decide_eq_true hlt,if_pos hlt]
   simp only [cond_true]
   rw [ybLy (by omega),ybTy g1,ybLy (by omega),ybTy g2,ybLy (by omega),ybTy g2,yjpy,s1,ybLy (by simp),ybTy g3,yjpy,s2]
   rw [ypFy cmp c S hc x hx b i ys (y :: post) n (fun z hz=>hS z (by simp [hz])) (by simp at hn; omega) (by simp at hl ⊢; omega) R e0]
   simp
  ·rw [decide_eq_false hlt,if_neg hlt]
   simp
theorem yq4y {α:Type} (N:Nat) (cmp:CmpT α) (c:α→α→Int) (S:α→Prop) (hc:∀ x y,S x→S y→∀ (R:Type) (k:Int→Option R),cmp x y k = k (c x y)) (len:Nat) (hlen:len < 4611686018427380000) (hN:len < N) :
  ∀ (rest acc:List α) (n:Nat),(∀ y ∈ acc,S y)→(∀ y ∈ rest,S y)→acc.length + rest.length = len→rest.length < n→∀ (R:Type) (e0:List α→Option R),
  ygby N cmp n 0 (len:Int) (acc.length:Int) (acc.reverse ++ rest) e0 = e0 (ydgy c acc rest).reverse
 | _,_,0,_,_,_,h,_,_=>by omega
 | [],acc,n + 1,_,_,hl,_,R,e0=>by
  rw [ygby,decide_eq_false (by simp at hl; omega)]
  simp [ydgy]
 | x :: xs,acc,n + 1,hS,hS2,hl,hn,R,e0=>by
  have hx:S x:=hS2 x (by simp)
  have hlx:(ycZy c x acc).length = acc.length + 1:=by rw [(ydhy c x acc).length_eq]; simp
  rw [ygby,decide_eq_true (by simp at hl; omega)]
  simp only [cond_true]
  rw [ypFy cmp c S hc x hx (len:Int) (acc.length:Int) acc xs N hS (by simp at hl; omega) (by simp at hl; omega),yary (by omega),← hlx]
  rw [yq4y N cmp c S hc len hlen hN xs (ycZy c x acc) n (fun y hy=>by
   rcases List.mem_cons.1 ((ydhy c x acc).mem_iff.1 hy) with rfl | hy
   ·exact hx
   ·exact hS y hy) (fun y hy=>hS2 y (by simp [hy])) (by simp at hl ⊢; omega) (by simp at hn; omega) R e0]
  rfl
theorem yyfy {α:Type} {N:Nat} {cmp:CmpT α} (c:α→α→Int) (S:α→Prop) (hc:∀ x y,S x→S y→∀ (R:Type) (k:Int→Option R),cmp x y k = k (c x y)) (l:List α) (hS:∀ y ∈ l,S y) (hN:l.length + 1 < N) (hN2:N≤4611686018427380000) {R:Type} (k:List α→Option R) :
  sIns N cmp l 0 (l.length:Int) k = k (sortI c l):=by
 unfold sIns
 rw [yaGy (by omega) (by omega)]
 cases l with
 | nil =>
  obtain ⟨m,rfl⟩:∃ m,N = m + 1:=⟨N - 1,by omega⟩
  rw [ygby]; simp [sortI,ydgy]
 | cons x xs =>
  have h:=yq4y N cmp c S hc (x :: xs).length (by omega) (by omega) xs [x] N (by simpa using hS x (by simp)) (fun y hy=>hS y (by simp [hy])) (by simp; omega) (by simp at hN; omega) R (fun e54=>k e54)
  simp only [List.length_singleton,List.reverse_singleton,List.singleton_append] at h
  exact h
theorem yESy {α:Type} {N:Nat} {cmp:CmpT α} (l:List α) (a:Int) (h1:-1000000≤a) (h2:a≤1000000000) (hN:0 < N) {R:Type} (k:List α→Option R):sIns N cmp l a a k = k l:=by
 unfold sIns
 obtain ⟨m,rfl⟩:∃ m,N = m + 1:=⟨N - 1,by omega⟩
 rw [yaGy (by omega) (by omega),ygby,decide_eq_false (by omega)]
 rfl
end Go.Am
set_option linter.unusedVariables false
set_option linter.unusedSimpArgs false
set_option maxRecDepth 100000
namespace Go.Am
open Go
def yhHy {α:Type} (ins:List α→Int→Int→{R:Type}→(List α→Option R)→Option R):Nat→Int→Int→Int→Int→List α→{R:Type}→(Int→Int→Int→List α→Option R)→Option R
 | 0,_,_,_,_,_,_,_=>none
 | n + 1,v3,v4,v5,v6,v7,_,e0=>(bif (decide (v6≤v3)) then (ins v7 v5 v6 (fun r9=>yhHy ins n v3 v4 v6 (w64 (v6 + v4)) r9 e0)) else e0 v3 v4 v5 v7)
theorem yzPy {α:Type} {N M:Nat} {cmp:CmpT α} (c:α→α→Int) (S:α→Prop) (hc:∀ x y,S x→S y→∀ (R:Type) (k:Int→Option R),cmp x y k = k (c x y)) (l:List α) (hS:∀ y ∈ l,S y) (hl:l.length≤20) (hN:1000≤N) (hN2:N≤4611686018427380000) {R:Type} (e0:Int→Int→Int→List α→Option R)
  (ins:List α→Int→Int→{R:Type}→(List α→Option R)→Option R) (hi:∀ l a b (R:Type) (k:List α→Option R),ins l a b k = sIns N cmp l a b k) :
  (yhHy ins (M + 3) (l.length:Int) 20 0 20 l e0 = if l.length = 20 then e0 (l.length:Int) 20 20 (sortI c l) else e0 (l.length:Int) 20 0 l):=by
 rw [yhHy]
 by_cases h:l.length = 20
 ·rw [decide_eq_true (by omega),if_pos h]
  simp only [cond_true,hi]
  have h20:(20:Int) = (l.length:Int):=by omega
  have e1:=yyfy (N:=N) c S hc l hS (by omega) hN2 (fun r9=>yhHy ins (M + 2) (l.length:Int) 20 20 (w64 (20 + 20)) r9 e0)
  rw [← h20] at e1
  rw [← h20,e1,yhHy,yaGy (by omega) (by omega),decide_eq_false (by omega)]
  rfl
 ·rw [decide_eq_false (by omega),if_neg h]
  rfl
def yIYy {α:Type}:Nat→Int→Int→Int→Int→List α→{R:Type}→(Int→Int→Int→List α→Option R)→Option R
 | 0,_,_,_,_,_,_,_=>none
 | n + 1,v30,v31,v32,v33,v34,_,e0=>(bif (decide (v33≤v30)) then none else e0 v30 v31 v32 v34)
def ynSy {α:Type} (N:Nat):Nat→Int→Int→List α→{R:Type}→(List α→Option R)→Option R
 | 0,_,_,_,_,_=>none
 | n + 1,v15,v16,v17,_,e0=>(bif (decide (v16 < v15)) then (yIYy N v15 v16 0 (w64 (2 * v16)) v17 (fun e37 e38 e39 e40=>(bif (decide ((w64 (e39 + e38)) < e37)) then none else ynSy N n e37 (w64 (e38 * 2)) e40 e0))) else e0 v17)
def sSta {α:Type} (N:Nat) (ins:List α→Int→Int→{R:Type}→(List α→Option R)→Option R) (a1:List α) (a2:Int) {R:Type} (k0:List α→Option R):Option R :=
 (yhHy ins N a2 20 0 20 a1 (fun e10 e11 e12 e13=>(ins e13 e12 e10 (fun r14=>(ynSy N N e10 e11 r14 (fun e42=>k0 e42))))))
theorem yHXy {α:Type} {N:Nat} {cmp:CmpT α} (c:α→α→Int) (S:α→Prop) (hc:∀ x y,S x→S y→∀ (R:Type) (k:Int→Option R),cmp x y k = k (c x y)) (l:List α) (hS:∀ y ∈ l,S y) (hl:l.length≤20) (hN:1000≤N) (hN2:N≤4611686018427380000) (ins:List α→Int→Int→{R:Type}→(List α→Option R)→Option R) (hi:∀ l a b (R:Type) (k:List α→Option R),ins l a b k = sIns N cmp l a b k) {R:Type} (k:List α→Option R) :
  sSta N ins l (l.length:Int) k = k (sortI c l):=by
 obtain ⟨m,rfl⟩:∃ m,N = m + 3:=⟨N - 3,by omega⟩
 unfold sSta
 rw [yzPy (N:=m + 3) c S hc l hS hl hN hN2 _ ins hi]
 simp only [hi]
 have h7:∀ r:List α,ynSy (m + 3) (m + 3) (l.length:Int) 20 r k = k r:=fun r=>by
  rw [ynSy,decide_eq_false (by omega)]; rfl
 split
 ·rename_i h
  have h20:(l.length:Int) = 20:=by omega
  rw [h20] at h7 ⊢
  rw [yESy _ _ (by omega) (by omega) (by omega)]
  exact h7 _
 ·rw [yyfy c S hc l hS (by omega) hN2]
  exact h7 _
def ycsy {α:Type} (eq:α→α→Bool):α→List α→List α
 | _,[]=>[]
 | p,y :: ys=>if eq y p then ycsy eq y ys else y :: ycsy eq y ys
def ykry {α:Type} (eq:α→α→Bool):List α→List α
 | []=>[]
 | x :: xs=>x :: ycsy eq x xs
theorem ygXy {α:Type} (eq:α→α→Bool):∀ (l:List α) (p x:α),x ∈ ycsy eq p l→x ∈ l
 | [],_,_,h=>by cases h
 | y :: ys,p,x,h=>by
  unfold ycsy at h
  split at h
  ·exact List.mem_cons_of_mem _ (ygXy eq ys y x h)
  ·rcases List.mem_cons.1 h with rfl | h
   ·exact List.mem_cons_self
   ·exact List.mem_cons_of_mem _ (ygXy eq ys y x h)
theorem ywqy {α:Type} {eq:α→α→Bool} {l:List α} {x:α} (h:x ∈ ykry eq l):x ∈ l:=by
 cases l with
 | nil=>cases h
 | cons y ys =>
  rcases List.mem_cons.1 h with rfl | h
  ·exact List.mem_cons_self
  ·exact List.mem_cons_of_mem _ (ygXy eq ys y x h)
def yrwy {α:Type}:Nat→List (List α)→Int→List (List α)→Int→Int→{R:Type}→(List (List α)→Int→Option R)→Option R
 | 0,_,_,_,_,_,_,_=>none
 | n + 1,v2,v3,v4,v5,v6,_,e0=>(bif (decide (v6 < v5)) then (get_ v4 v6 fun x8=>(bif (decide ((w64 (v3 + (x8.length:Int))) < 0)) then none else yrwy n v2 (w64 (v3 + (x8.length:Int))) v4 v5 (w64 (v6 + 1)) e0)) else e0 v2 v3)
def yo0y {α:Type} (by_:Nat):Nat→List (List α)→Int→Int→List α→{R:Type}→(List α→Option R)→Option R
 | 0,_,_,_,_,_,_=>none
 | n + 1,v12,v13,v14,v15,_,e0=>(bif (decide (v14 < v13)) then (get_ v12 v14 fun x17=>(bif (decide ((v15.length + x17.length) * by_≤yady)) then yo0y by_ n v12 v13 (w64 (v14 + 1)) (v15 ++ x17) e0 else none)) else e0 v15)
def sCat {α:Type} (N by_:Nat) (gr:Int→{R:Type}→(List α→Option R)→Option R) (a1:List (List α)) {R:Type} (k0:List α→Option R):Option R :=
 (yrwy N a1 0 a1 (a1.length:Int) 0 (fun e9 e10=>(gr e10 (fun r11=>(yo0y by_ N e9 (e9.length:Int) 0 r11 (fun e18=>k0 e18))))))
theorem ywTy {α:Type} {N by_:Nat} (a b:List α) (ha:a.length≤100000) (hb:b.length≤100000) (hby:by_≤10000) (hN:10≤N) {R:Type} (k:List α→Option R):sCat N by_ (ydpy by_) [a,b] k = k (a ++ b):=by
 obtain ⟨m,rfl⟩:∃ m,N = m + 4:=⟨N - 4,by omega⟩
 have p1:(a.length + b.length) * by_≤2000000000:=Nat.le_trans (Nat.mul_le_mul (show a.length + b.length≤200000 by omega) hby) (by omega)
 have p2:a.length * by_≤2000000000:=Nat.le_trans (Nat.mul_le_mul (show a.length≤200000 by omega) hby) (by omega)
 have e1:w64 (0 + (a.length:Int)) = (a.length:Int):=by rw [yaGy (by omega) (by omega)]; omega
 have e2:w64 ((a.length:Int) + (b.length:Int)) = ((a.length + b.length:Nat):Int):=by rw [yaGy (by omega) (by omega)]; omega
 have e3:w64 (0 + 1) = ((1:Nat):Int):=by rw [yaGy (by omega) (by omega)]; rfl
 have e4:w64 (((1:Nat):Int) + 1) = ((2:Nat):Int):=by rw [yaGy (by omega) (by omega)]; rfl
 have g0:∀ {R:Type} (k:List α→Option R),get_ [a,b] 0 k = k a:=fun k=>ynly (i:=0) rfl k
 have g1:∀ {R:Type} (k:List α→Option R),get_ [a,b] ((1:Nat):Int) k = k b:=fun k=>ynly (i:=1) rfl k
 unfold sCat
 simp only [yrwy,yo0y,g0,g1,e1,e2,e3,e4]
 have l2:(([a,b]:List (List α)).length:Int) = 2:=rfl
 have d0:decide ((a.length:Int) < 0) = false:=decide_eq_false (by omega)
 have d1:decide (((a.length + b.length:Nat):Int) < 0) = false:=decide_eq_false (by omega)
 have d2:decide ((0:Int) < 2) = true:=rfl
 have d3:decide (((1:Nat):Int) < 2) = true:=rfl
 have d4:decide (((2:Nat):Int) < 2) = false:=rfl
 rw [l2,d2,d3,d4,d0,d1]
 simp only [cond_true,cond_false,ydpy]
 rw [show (decide (0≤((a.length + b.length:Nat):Int)) && (decide (((a.length + b.length:Nat):Int).toNat * by_≤140737488355328) && decide (((a.length + b.length:Nat):Int)≤4611686018427387904))) = true by
  rw [Int.toNat_natCast]; simp; omega]
 simp only [cond_true,List.length_nil,List.nil_append,Nat.zero_add,l2]
 rw [decide_eq_true (show a.length * by_≤yady by unfold yady; omega),decide_eq_true (show (a.length + b.length) * by_≤yady by unfold yady; omega)]
 rfl
theorem room1 {α:Type} (l:List α) (x:α) (by_:Nat) (hl:l.length≤1000000) (hby:by_≤10000):decide ((l.length + [x].length) * by_≤yady) = true:=by
 have p1:(l.length + [x].length) * by_≤1000001 * 10000:=Nat.mul_le_mul (by simp; omega) hby
 exact decide_eq_true (by unfold yady; omega)
end Go.Am
