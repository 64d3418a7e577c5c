/- The plain law, in Lean alone: B1, B2, B3. No condition: lemmas for the claim. -/
import Derived.Test.YtnlblmnoiepeaaaGreatDoorAmPrint
set_option linter.unusedVariables false
set_option linter.unusedSimpArgs false
set_option maxRecDepth 100000
namespace Go.Am
open Go
theorem yaqy {x:Int} (h1:-9223372036854775808≤x) (h2:x≤9223372036854775807):w64 x = x:=by
 unfold w64 IntKind.wrap
 simp [IntKind.bits,IntKind.signed]
 omega
theorem yaAy {i:Nat} (h:i < 4611686018427387904):w64 ((i:Int) + 1) = ((i + 1:Nat):Int):=by
 rw [yaqy (by omega) (by omega)]; omega
theorem yvZy {i:Nat} (h:i < 4611686018427387904) (h0:0 < i):w64 ((i:Int) - 1) = ((i - 1:Nat):Int):=by
 rw [yaqy (by omega) (by omega)]; omega
theorem yaUy {α:Type} {l:List α} {i:Nat} {x:α} (h:l[i]? = some x) {R:Type} (k:α→Option R):at_ l (i:Int) k = k x:=by
 unfold at_; rw [Int.toNat_natCast,h]
theorem ywYy {α:Type} {l:List α} {i:Int} {x:α} (h:l[i.toNat]? = some x) {R:Type} (k:α→Option R):at_ l i k = k x:=by
 unfold at_; rw [h]
theorem yeCy {α:Type} {l:List α} {i:Nat} {x:α} (h:l[i]? = some x) {R:Type} (k:α→Option R):get_ l (i:Int) k = k x:=by
 unfold get_; rw [yaUy h]; simp
theorem ya6y {α:Type} {l:List α} {i:Nat} (h:i < l.length) {R:Type} (k:Option R):inr l (i:Int) k = k:=by
 unfold inr; rw [decide_eq_true (show 0≤(i:Int) by omega),decide_eq_true (show (i:Int) < (l.length:Int) by omega)]; rfl
theorem ygvy {α:Type} {l:List α} {i:Nat} {x:α}:set_ l (i:Int) x = l.set i x:=by unfold set_; rw [Int.toNat_natCast]
theorem yamy {α:Type} {l:List α} {i:Nat} {x:α} {xs:List α} (h:l.drop i = x :: xs):l[i]? = some x∧i < l.length∧l.drop (i + 1) = xs∧l.length = i + 1 + xs.length:=by
 have h1:l[i]? = some x:=by
  have:=congrArg (fun t=>t[0]?) h
  simpa [List.getElem?_drop] using this
 have h2:i < l.length:=by
  rcases Nat.lt_or_ge i l.length with h2 | h2
  ·exact h2
  ·rw [List.getElem?_eq_none h2] at h1; cases h1
 have h3:=congrArg List.length h
 simp at h3
 refine ⟨h1,h2,?_,by omega⟩
 rw [← List.drop_drop,h]; rfl
theorem yxBy {α:Type} {l:List α} {i:Nat} (h:l.drop i = []):l.length≤i:=by
 have:=congrArg List.length h
 simp at this; omega
theorem ya4y {α:Type} {l:List α} {i:Nat} {x:α} {xs:List α} (h:l.drop i = x :: xs):decide ((i:Int) < (l.length:Int)) = true:=by
 have:=(yamy h).2.1; exact decide_eq_true (by omega)
theorem ybgy {α:Type} {l:List α} {i:Nat} (h:l.drop i = []):decide ((i:Int) < (l.length:Int)) = false:=by
 have:=yxBy h; exact decide_eq_false (by omega)
theorem ybJy {α:Type} {l:List α} {i:Nat} {x:α} {xs:List α} (h:l.drop i = x :: xs) {R:Type} (k:α→Option R):get_ l (i:Int) k = k x:=yeCy (yamy h).1 k
theorem yePy {α:Type} {l:List α} {i:Nat} {x:α} {xs:List α} (h:l.drop i = x :: xs) {R:Type} (k:α→Option R):at_ l (i:Int) k = k x:=yaUy (yamy h).1 k
theorem ydsy {α:Type} {l:List α} {i:Nat} {x:α} {xs:List α} (h:l.drop i = x :: xs) {R:Type} (k:Option R):inr l (i:Int) k = k:=ya6y (yamy h).2.1 k
theorem yg0y {α:Type} {l:List α} {i:Nat} {p:α} {xs:List α} (h:l.drop (i - 1) = p :: xs) (h0:0 < i) (hl:l.length < 4611686018427387904) {R:Type} (k:α→Option R):get_ l (w64 ((i:Int) - 1)) k = k p:=by
 have:=(yamy h).2.1
 rw [yvZy (by omega) h0]; exact ybJy h k
theorem ybuy {α:Type} {l:List α} {i:Nat} {x:α} {xs:List α} (h:l.drop i = x :: xs):x ∈ l:=List.mem_of_getElem? (yamy h).1
theorem yIwy {α:Type} {l:List α} {i:Nat} {xs:List α} (h:l.drop i = xs):∀ x ∈ xs,x ∈ l:=by
 subst h; exact fun x hx=>List.mem_of_mem_drop hx
theorem yyUy {α:Type} {l:List α} {i:Nat} {x y:α} (h:x ∈ l.set i y):x ∈ l ∨ x = y:=List.mem_or_eq_of_mem_set h
end Go.Am
set_option linter.unusedVariables false
set_option linter.unusedSimpArgs false
set_option maxRecDepth 100000
namespace Go.Am
open Go
def ygPy {α:Type} (ne:α→α→Bool):Nat→List α→List α→Int→Int→{R:Type}→(Bool→Option R)→Option R→Option R
 | 0,_,_,_,_,_,_,_=>none
 | n + 1,v3,v4,v5,v6,_,e0,e1=>(bif (decide (v6 < v5)) then (get_ v3 v6 fun x9=>(get_ v4 v6 fun x10=>(bif (ne x9 x10) then e0 false else ygPy ne n v3 v4 v5 (w64 (v6 + 1)) e0 e1))) else e1)
def ysKy {α:Type} (N:Nat) (ne:α→α→Bool) (a b:List α) {R:Type} (k0:Bool→Option R):Option R :=
 (bif ((a.length:Int) != (b.length:Int)) then k0 false else (ygPy ne N a b (a.length:Int) 0 (fun e11=>k0 e11) (k0 true)))
theorem ypCy {α:Type} (ne:α→α→Bool) (l:List α) (hl:l.length < 4611686018427387904) (hne:∀ x,ne x x = false):∀ (xs:List α) (n i:Nat),l.drop i = xs→xs.length < n→∀ (R:Type) (e0:Bool→Option R) (e1:Option R),ygPy ne n l l (l.length:Int) (i:Int) e0 e1 = e1
 | _,0,_,_,h,_,_,_=>by omega
 | [],n + 1,i,h,_,_,_,_=>by rw [ygPy,ybgy h]; rfl
 | x :: xs,n + 1,i,h,hn,R,e0,e1=>by
  have h':=yamy h
  rw [ygPy,ya4y h]
  simp only [cond_true,ybJy h,hne,cond_false]
  rw [yaAy (by omega)]
  exact ypCy ne l hl hne xs n (i + 1) h'.2.2.1 (by simp at hn; omega) R e0 e1
theorem yAoy {α:Type} {N:Nat} {ne:α→α→Bool} {l:List α} (hN:l.length < N) (hN2:N≤4611686018427387904) (hne:∀ x,ne x x = false) {R:Type} (k:Bool→Option R):ysKy N ne l l k = k true:=by
 unfold ysKy
 have h:=ypCy ne l (by omega) hne l N 0 rfl hN R (fun e11=>k e11) (k true)
 simp only [bne_self_eq_false,cond_false]
 exact h
def idxI {α:Type} (p:α→Bool) (l:List α):Int:=match l.findIdx? p with | some i=>(i:Int) | none=>-1
theorem ys4y {α:Type} (p:α→Bool) (l:List α):decide (idxI p l ≥ 0) = l.any p:=by
 unfold idxI
 cases h:l.findIdx? p with
 | some i =>
  have:=List.findIdx?_isSome (xs:=l) (p:=p)
  rw [h] at this
  show decide ((i:Int) ≥ 0) = _
  rw [decide_eq_true (by omega)]
  simpa using this
 | none =>
  have:=List.findIdx?_isSome (xs:=l) (p:=p)
  rw [h] at this
  simp at this ⊢
  intro x hx
  exact this x hx
def yfiy {α β:Type} (eq:β→α→Bool):Nat→List α→β→Int→Int→{R:Type}→(Int→Option R)→Option R→Option R
 | 0,_,_,_,_,_,_,_=>none
 | n + 1,v3,v6,v4,v5,_,e0,e1=>(bif (decide (v5 < v4)) then (get_ v3 v5 fun x8=>(bif (eq v6 x8) then e0 v5 else yfiy eq n v3 v6 v4 (w64 (v5 + 1)) e0 e1)) else e1)
theorem ymDy {α β:Type} (eq:β→α→Bool) (v:β) (l:List α) (hl:l.length < 4611686018427387904):∀ (xs:List α) (n i:Nat),l.drop i = xs→xs.length < n→∀ (R:Type) (e0:Int→Option R) (e1:Option R),
  yfiy eq n l v (l.length:Int) (i:Int) e0 e1 = match xs.findIdx? (eq v) with | some j=>e0 ((i + j:Nat):Int) | none=>e1
 | _,0,_,_,h,_,_,_=>by omega
 | [],n + 1,i,h,_,_,_,_=>by rw [yfiy,ybgy h]; rfl
 | x :: xs,n + 1,i,h,hn,R,e0,e1=>by
  have h':=yamy h
  rw [yfiy,ya4y h]
  simp only [cond_true,ybJy h,List.findIdx?_cons]
  cases hq:eq v x with
  | true=>simp
  | false =>
   simp only [cond_false]
   rw [yaAy (by omega),ymDy eq v l hl xs n (i + 1) h'.2.2.1 (by simp at hn; omega) R e0 e1]
   cases xs.findIdx? (eq v) with
   | none=>rfl
   | some j=>simp; congr 1; omega
def yohy {α β:Type} (N:Nat) (eq:β→α→Bool) (a1:List α) (a2:β) {R:Type} (k0:Int→Option R):Option R:=(yfiy eq N a1 a2 (a1.length:Int) 0 (fun e9=>k0 e9) (k0 (-1)))
theorem yCwy {α β:Type} {N:Nat} (eq:β→α→Bool) (v:β) (l:List α) (hN:l.length < N) (hN2:N≤4611686018427387904) {R:Type} (k:Int→Option R) :
  yohy N eq l v k = k (idxI (eq v) l):=by
 unfold yohy
 have h:=ymDy eq v l (by omega) l N 0 rfl hN R (fun e9=>k e9) (k (-1))
 refine h.trans ?_
 unfold idxI
 cases l.findIdx? (eq v) with
 | none=>rfl
 | some j=>simp
def yfzy {α σ:Type} (f:α→σ→{R:Type}→(Bool→σ→Option R)→Option R):Nat→List α→Int→Int→σ→{R:Type}→(Int→σ→Option R)→(σ→Option R)→Option R
 | 0,_,_,_,_,_,_,_=>none
 | n + 1,v3,v4,v5,v6,_,e0,e1=>(bif (decide (v5 < v4)) then (get_ v3 v5 fun x10=>(f x10 v6 (fun r11 r12=>(bif r11 then e0 v5 r12 else yfzy f n v3 v4 (w64 (v5 + 1)) r12 e0 e1)))) else e1 v6)
theorem ymQy {α σ:Type} (f:α→σ→{R:Type}→(Bool→σ→Option R)→Option R) (p:α→Bool) (s:σ) (l:List α) (hf:∀ x ∈ l,∀ (R:Type) (k:Bool→σ→Option R),f x s k = k (p x) s) (hl:l.length < 4611686018427387904) :
  ∀ (xs:List α) (n i:Nat),l.drop i = xs→xs.length < n→∀ (R:Type) (e0:Int→σ→Option R) (e1:σ→Option R),
  yfzy f n l (l.length:Int) (i:Int) s e0 e1 = match xs.findIdx? p with | some j=>e0 ((i + j:Nat):Int) s | none=>e1 s
 | _,0,_,_,h,_,_,_=>by omega
 | [],n + 1,i,h,_,_,_,_=>by rw [yfzy,ybgy h]; rfl
 | x :: xs,n + 1,i,h,hn,R,e0,e1=>by
  have h':=yamy h
  rw [yfzy,ya4y h]
  simp only [cond_true,ybJy h,List.findIdx?_cons,hf x (ybuy h)]
  cases hq:p x with
  | true=>simp
  | false =>
   simp only [cond_false]
   rw [yaAy (by omega),ymQy f p s l hf hl xs n (i + 1) h'.2.2.1 (by simp at hn; omega) R e0 e1]
   cases xs.findIdx? p with
   | none=>rfl
   | some j=>simp; congr 1; omega
def yeOy {α σ:Type} (N:Nat) (f:α→σ→{R:Type}→(Bool→σ→Option R)→Option R) (a1:List α) (a2:σ) {R:Type} (k0:Int→σ→Option R):Option R:=(yfzy f N a1 (a1.length:Int) 0 a2 (fun e9 e10=>k0 e9 e10) (fun e=>k0 (-1) e))
theorem ylfy {α σ:Type} {N:Nat} (f:α→σ→{R:Type}→(Bool→σ→Option R)→Option R) (p:α→Bool) (s:σ) (l:List α) (hf:∀ x ∈ l,∀ (R:Type) (k:Bool→σ→Option R),f x s k = k (p x) s) (hN:l.length < N) (hN2:N≤4611686018427387904) {R:Type} (k:Int→σ→Option R) :
  yeOy N f l s k = k (idxI p l) s:=by
 unfold yeOy
 have h:=ymQy f p s l hf (by omega) l N 0 rfl hN R (fun e9 e10=>k e9 e10) (fun e=>k (-1) e)
 refine h.trans ?_
 unfold idxI
 cases l.findIdx? p with
 | none=>rfl
 | some j=>simp
def ycTy {α:Type} (cmp:CmpT α):Nat→Int→Int→Int→Int→List α→{R:Type}→(Int→Int→Int→List α→Option R)→Option R
 | 0,_,_,_,_,_,_,_=>none
 | n + 1,v31,v32,v33,v34,v35,_,e0=>(bif (decide (v34 > v31)) then (inr v35 v34 (at_ v35 v34 fun x43=>(inr v35 (w64 (v34 - 1)) (at_ v35 (w64 (v34 - 1)) fun x44=>(cmp x43 x44 (fun r45=>(bif (decide (r45 < 0)) then (inr v35 (w64 (v34 - 1)) (at_ v35 (w64 (v34 - 1)) fun x46=>(inr v35 v34 (at_ v35 v34 fun x47=>(inr v35 v34 (at_ v35 v34 fun x48=>(inr (set_ v35 v34 x46) (w64 (v34 - 1)) (at_ (set_ v35 v34 x46) (w64 (v34 - 1)) fun x49=>ycTy cmp n v31 v32 v33 (w64 (v34 - 1)) (set_ (set_ v35 v34 x46) (w64 (v34 - 1)) x47) e0)))))))) else e0 v31 v32 v33 v35))))))) else e0 v31 v32 v33 v35)
def yb8y {α:Type} (N:Nat) (cmp:CmpT α):Nat→Int→Int→Int→List α→{R:Type}→(List α→Option R)→Option R
 | 0,_,_,_,_,_,_=>none
 | n + 1,v4,v5,v6,v7,_,e0=>(bif (decide (v6 < v5)) then (ycTy cmp N v4 v5 v6 v6 v7 (fun e50 e51 e52 e53=>yb8y N cmp n e50 e51 (w64 (e52 + 1)) e53 e0)) else e0 v7)
def sIns {α:Type} (N:Nat) (cmp:CmpT α) (a1:List α) (a2 a3:Int) {R:Type} (k0:List α→Option R):Option R :=
 (yb8y N cmp N a2 a3 (w64 (a2 + 1)) a1 (fun e54=>k0 e54))
def yfpy {α:Type} (c:α→α→Int) (x:α):List α→List α
 | []=>[x]
 | y :: ys=>if c x y < 0 then y :: yfpy c x ys else x :: y :: ys
def yeJy {α:Type} (c:α→α→Int):List α→List α→List α
 | acc,[]=>acc
 | acc,x :: xs=>yeJy c (yfpy c x acc) xs
def sortI {α:Type} (c:α→α→Int) (l:List α):List α:=(yeJy c [] l).reverse
theorem ygzy {α:Type} (c:α→α→Int) (x:α):∀ l:List α,(yfpy c x l).Perm (x :: l)
 | []=>.refl _
 | y :: ys=>by
  unfold yfpy
  split
  ·exact ((ygzy c x ys).cons y).trans (List.Perm.swap x y ys)
  ·exact .refl _
theorem ynhy {α:Type} (c:α→α→Int):∀ (l acc:List α),(yeJy c acc l).Perm (acc ++ l)
 | [],acc=>by simp [yeJy]
 | x :: xs,acc=>by
  unfold yeJy
  refine (ynhy c xs _).trans ?_
  refine ((ygzy c x acc).append_right xs).trans ?_
  exact (List.perm_middle (l₁:=acc) (l₂:=xs) (a:=x)).symm
theorem ykEy {α:Type} (c:α→α→Int) (l:List α):(sortI c l).Perm l:=by
 unfold sortI
 exact (List.reverse_perm _).trans (by simpa using ynhy c l [])
theorem ybFy {α:Type} (c:α→α→Int) (l:List α):(sortI c l).length = l.length:=(ykEy c l).length_eq
theorem yiWy {α:Type} {c:α→α→Int} {l:List α} {x:α}:x ∈ sortI c l ↔ x ∈ l:=(ykEy c l).mem_iff
theorem yjLy {α:Type} (pre:List α) (a b:α) (post:List α):(pre ++ a :: post).set pre.length b = pre ++ b :: post:=by
 induction pre with
 | nil=>rfl
 | cons x xs ih=>simp [ih]
theorem yeGy {α:Type} (pre:List α) (a:α) (post:List α):(pre ++ a :: post)[pre.length]? = some a:=by simp
theorem yryy {α:Type} (cmp:CmpT α) (c:α→α→Int) (S:α→Prop) (hc:∀ x y,S x→S y→∀ (R:Type) (k:Int→Option R),cmp x y k = k (c x y)) (x:α) (hx:S x) (b i:Int) :
  ∀ (rs post:List α) (n:Nat),(∀ y ∈ rs,S y)→rs.length < n→rs.length + post.length < 4611686018427387000→∀ (R:Type) (e0:Int→Int→Int→List α→Option R),
  ycTy cmp n 0 b i (rs.length:Int) (rs.reverse ++ x :: post) e0 = e0 0 b i ((yfpy c x rs).reverse ++ post)
 | _,_,0,_,h,_,_,_=>by omega
 | [],post,n + 1,_,_,_,R,e0=>by rw [ycTy]; simp [yfpy]
 | y :: ys,post,n + 1,hS,hn,hl,R,e0=>by
  have hy:S y:=hS y (by simp)
  have e1:w64 (((y :: ys).length:Nat) - 1:Int) = (ys.length:Int):=by
   rw [yaqy (by omega) (by simp at hl ⊢; omega)]; simp
  have hd:(y :: ys).reverse ++ x :: post = ys.reverse ++ y :: x :: post:=by simp
  have g1:(ys.reverse ++ y :: x :: post)[ys.length]? = some y:=by
   have:=yeGy ys.reverse y (x :: post); rwa [List.length_reverse] at this
  have hd2:ys.reverse ++ y :: x :: post = (ys.reverse ++ [y]) ++ x :: post:=by simp
  have g2:(ys.reverse ++ y :: x :: post)[ys.length + 1]? = some x:=by
   have:=yeGy (ys.reverse ++ [y]) x post
   rw [← hd2] at this; rwa [List.length_append,List.length_reverse] at this
  have len1:(ys.reverse ++ y :: x :: post).length = ys.length + 2 + post.length:=by simp; omega
  have s1:(ys.reverse ++ y :: x :: post).set (ys.length + 1) y = ys.reverse ++ y :: y :: post:=by
   have:=yjLy (ys.reverse ++ [y]) x y post
   rw [← hd2] at this
   rw [List.length_append,List.length_reverse] at this
   refine Eq.trans this ?_
   simp
  have s2:(ys.reverse ++ y :: y :: post).set ys.length x = ys.reverse ++ x :: y :: post:=by
   have:=yjLy ys.reverse y x (y :: post); rwa [List.length_reverse] at this
  have g3:(ys.reverse ++ y :: y :: post)[ys.length]? = some y:=by
   have:=yeGy ys.reverse y (y :: post); rwa [List.length_reverse] at this
  have c1:(((y :: ys).length:Nat):Int) = ((ys.length + 1:Nat):Int):=by simp
  rw [ycTy]
  rw [decide_eq_true (show (((y :: ys).length:Nat):Int) > 0 by simp)]
  simp only [cond_true,hd,e1]
  rw [c1]
  rw [ya6y (by omega),yaUy g2,ya6y (by omega),yaUy g1,hc x y hx hy]
  unfold yfpy
  by_cases hlt:c x y < 0
  ·rw [decide_eq_true hlt,if_pos hlt]
   simp only [cond_true]
   rw [ya6y (by omega),yaUy g1,ya6y (by omega),yaUy g2,ya6y (by omega),yaUy g2,ygvy,s1,ya6y (by simp),yaUy g3,ygvy,s2]
   rw [yryy cmp c S hc x hx b i ys (y :: post) n (fun z hz=>hS z (by simp [hz])) (by simp at hn; omega) (by simp at hl ⊢; omega) R e0]
   simp
  ·rw [decide_eq_false hlt,if_neg hlt]
   simp
theorem yrby {α:Type} (N:Nat) (cmp:CmpT α) (c:α→α→Int) (S:α→Prop) (hc:∀ x y,S x→S y→∀ (R:Type) (k:Int→Option R),cmp x y k = k (c x y)) (len:Nat) (hlen:len < 4611686018427380000) (hN:len < N) :
  ∀ (rest acc:List α) (n:Nat),(∀ y ∈ acc,S y)→(∀ y ∈ rest,S y)→acc.length + rest.length = len→rest.length < n→∀ (R:Type) (e0:List α→Option R),
  yb8y N cmp n 0 (len:Int) (acc.length:Int) (acc.reverse ++ rest) e0 = e0 (yeJy c acc rest).reverse
 | _,_,0,_,_,_,h,_,_=>by omega
 | [],acc,n + 1,_,_,hl,_,R,e0=>by
  rw [yb8y,decide_eq_false (by simp at hl; omega)]
  simp [yeJy]
 | x :: xs,acc,n + 1,hS,hS2,hl,hn,R,e0=>by
  have hx:S x:=hS2 x (by simp)
  have hlx:(yfpy c x acc).length = acc.length + 1:=by rw [(ygzy c x acc).length_eq]; simp
  rw [yb8y,decide_eq_true (by simp at hl; omega)]
  simp only [cond_true]
  rw [yryy cmp c S hc x hx (len:Int) (acc.length:Int) acc xs N hS (by simp at hl; omega) (by simp at hl; omega),yaAy (by omega),← hlx]
  rw [yrby N cmp c S hc len hlen hN xs (yfpy c x acc) n (fun y hy=>by
   rcases List.mem_cons.1 ((ygzy c x acc).mem_iff.1 hy) with rfl | hy
   ·exact hx
   ·exact hS y hy) (fun y hy=>hS2 y (by simp [hy])) (by simp at hl ⊢; omega) (by simp at hn; omega) R e0]
  rfl
theorem yosy {α:Type} {N:Nat} {cmp:CmpT α} (c:α→α→Int) (S:α→Prop) (hc:∀ x y,S x→S y→∀ (R:Type) (k:Int→Option R),cmp x y k = k (c x y)) (l:List α) (hS:∀ y ∈ l,S y) (hN:l.length + 1 < N) (hN2:N≤4611686018427380000) {R:Type} (k:List α→Option R) :
  sIns N cmp l 0 (l.length:Int) k = k (sortI c l):=by
 unfold sIns
 rw [yaqy (by omega) (by omega)]
 cases l with
 | nil =>
  obtain ⟨m,rfl⟩:∃ m,N = m + 1:=⟨N - 1,by omega⟩
  rw [yb8y]; simp [sortI,yeJy]
 | cons x xs =>
  have h:=yrby N cmp c S hc (x :: xs).length (by omega) (by omega) xs [x] N (by simpa using hS x (by simp)) (fun y hy=>hS y (by simp [hy])) (by simp; omega) (by simp at hN; omega) R (fun e54=>k e54)
  simp only [List.length_singleton,List.reverse_singleton,List.singleton_append] at h
  exact h
theorem yqCy {α:Type} {N:Nat} {cmp:CmpT α} (l:List α) (a:Int) (h1:-1000000≤a) (h2:a≤1000000000) (hN:0 < N) {R:Type} (k:List α→Option R):sIns N cmp l a a k = k l:=by
 unfold sIns
 obtain ⟨m,rfl⟩:∃ m,N = m + 1:=⟨N - 1,by omega⟩
 rw [yaqy (by omega) (by omega),yb8y,decide_eq_false (by omega)]
 rfl
end Go.Am
set_option linter.unusedVariables false
set_option linter.unusedSimpArgs false
set_option maxRecDepth 100000
namespace Go.Am
open Go
def yhSy {α:Type} (ins:List α→Int→Int→{R:Type}→(List α→Option R)→Option R):Nat→Int→Int→Int→Int→List α→{R:Type}→(Int→Int→Int→List α→Option R)→Option R
 | 0,_,_,_,_,_,_,_=>none
 | n + 1,v3,v4,v5,v6,v7,_,e0=>(bif (decide (v6≤v3)) then (ins v7 v5 v6 (fun r9=>yhSy ins n v3 v4 v6 (w64 (v6 + v4)) r9 e0)) else e0 v3 v4 v5 v7)
theorem yDxy {α:Type} {N M:Nat} {cmp:CmpT α} (c:α→α→Int) (S:α→Prop) (hc:∀ x y,S x→S y→∀ (R:Type) (k:Int→Option R),cmp x y k = k (c x y)) (l:List α) (hS:∀ y ∈ l,S y) (hl:l.length≤20) (hN:1000≤N) (hN2:N≤4611686018427380000) {R:Type} (e0:Int→Int→Int→List α→Option R)
  (ins:List α→Int→Int→{R:Type}→(List α→Option R)→Option R) (hi:∀ l a b (R:Type) (k:List α→Option R),ins l a b k = sIns N cmp l a b k) :
  (yhSy ins (M + 3) (l.length:Int) 20 0 20 l e0 = if l.length = 20 then e0 (l.length:Int) 20 20 (sortI c l) else e0 (l.length:Int) 20 0 l):=by
 rw [yhSy]
 by_cases h:l.length = 20
 ·rw [decide_eq_true (by omega),if_pos h]
  simp only [cond_true,hi]
  have h20:(20:Int) = (l.length:Int):=by omega
  have e1:=yosy (N:=N) c S hc l hS (by omega) hN2 (fun r9=>yhSy ins (M + 2) (l.length:Int) 20 20 (w64 (20 + 20)) r9 e0)
  rw [← h20] at e1
  rw [← h20,e1,yhSy,yaqy (by omega) (by omega),decide_eq_false (by omega)]
  rfl
 ·rw [decide_eq_false (by omega),if_neg h]
  rfl
def yLBy {α:Type}:Nat→Int→Int→Int→Int→List α→{R:Type}→(Int→Int→Int→List α→Option R)→Option R
 | 0,_,_,_,_,_,_,_=>none
 | n + 1,v30,v31,v32,v33,v34,_,e0=>(bif (decide (v33≤v30)) then none else e0 v30 v31 v32 v34)
def yoby {α:Type} (N:Nat):Nat→Int→Int→List α→{R:Type}→(List α→Option R)→Option R
 | 0,_,_,_,_,_=>none
 | n + 1,v15,v16,v17,_,e0=>(bif (decide (v16 < v15)) then (yLBy N v15 v16 0 (w64 (2 * v16)) v17 (fun e37 e38 e39 e40=>(bif (decide ((w64 (e39 + e38)) < e37)) then none else yoby N n e37 (w64 (e38 * 2)) e40 e0))) else e0 v17)
def sSta {α:Type} (N:Nat) (ins:List α→Int→Int→{R:Type}→(List α→Option R)→Option R) (a1:List α) (a2:Int) {R:Type} (k0:List α→Option R):Option R :=
 (yhSy ins N a2 20 0 20 a1 (fun e10 e11 e12 e13=>(ins e13 e12 e10 (fun r14=>(yoby N N e10 e11 r14 (fun e42=>k0 e42))))))
theorem yJny {α:Type} {N:Nat} {cmp:CmpT α} (c:α→α→Int) (S:α→Prop) (hc:∀ x y,S x→S y→∀ (R:Type) (k:Int→Option R),cmp x y k = k (c x y)) (l:List α) (hS:∀ y ∈ l,S y) (hl:l.length≤20) (hN:1000≤N) (hN2:N≤4611686018427380000) (ins:List α→Int→Int→{R:Type}→(List α→Option R)→Option R) (hi:∀ l a b (R:Type) (k:List α→Option R),ins l a b k = sIns N cmp l a b k) {R:Type} (k:List α→Option R) :
  sSta N ins l (l.length:Int) k = k (sortI c l):=by
 obtain ⟨m,rfl⟩:∃ m,N = m + 3:=⟨N - 3,by omega⟩
 unfold sSta
 rw [yDxy (N:=m + 3) c S hc l hS hl hN hN2 _ ins hi]
 simp only [hi]
 have h7:∀ r:List α,yoby (m + 3) (m + 3) (l.length:Int) 20 r k = k r:=fun r=>by
  rw [yoby,decide_eq_false (by omega)]; rfl
 split
 ·rename_i h
  have h20:(l.length:Int) = 20:=by omega
  rw [h20] at h7 ⊢
  rw [yqCy _ _ (by omega) (by omega) (by omega)]
  exact h7 _
 ·rw [yosy c S hc l hS (by omega) hN2]
  exact h7 _
def yaRy {α:Type} (eq:α→α→Bool):α→List α→List α
 | _,[]=>[]
 | p,y :: ys=>if eq y p then yaRy eq y ys else y :: yaRy eq y ys
def ycvy {α:Type} (eq:α→α→Bool):List α→List α
 | []=>[]
 | x :: xs=>x :: yaRy eq x xs
theorem yhvy {α:Type} (eq:α→α→Bool):∀ (l:List α) (p x:α),x ∈ yaRy eq p l→x ∈ l
 | [],_,_,h=>by cases h
 | y :: ys,p,x,h=>by
  unfold yaRy at h
  split at h
  ·exact List.mem_cons_of_mem _ (yhvy eq ys y x h)
  ·rcases List.mem_cons.1 h with rfl | h
   ·exact List.mem_cons_self
   ·exact List.mem_cons_of_mem _ (yhvy eq ys y x h)
theorem yniy {α:Type} {eq:α→α→Bool} {l:List α} {x:α} (h:x ∈ ycvy eq l):x ∈ l:=by
 cases l with
 | nil=>cases h
 | cons y ys =>
  rcases List.mem_cons.1 h with rfl | h
  ·exact List.mem_cons_self
  ·exact List.mem_cons_of_mem _ (yhvy eq ys y x h)
theorem ymry {α:Type} (eq:α→α→Bool):∀ (l:List α) (p:α),(yaRy eq p l).length≤l.length
 | [],_=>Nat.le_refl _
 | y :: ys,p=>by
  unfold yaRy
  have:=ymry eq ys y
  split <;> simp <;> omega
theorem yxny {α:Type} (eq:α→α→Bool) (l:List α):(ycvy eq l).length≤l.length:=by
 cases l with
 | nil=>exact Nat.le_refl _
 | cons y ys=>have:=ymry eq ys y; simp [ycvy]; omega
def EqT (α:Type):Type 1:=α→α→{R:Type}→(Bool→Option R)→Option R
def yeuy {α:Type} (eq:EqT α):Nat→Int→Int→Int→Int→List α→{R:Type}→(Int→List α→Option R)→Option R
 | 0,_,_,_,_,_,_,_=>none
 | n + 1,v27,v28,v29,v30,v31,_,e0=>(bif (decide (v30 < ((v29 - v28).toNat:Int))) then (bif (decide (0≤v30) && (decide (v30 < v29 - v28) && decide (v28 + v30 < (v31.length:Int)))) then (at_ v31 (v28 + v30) fun x37=>(bif (decide (0≤(w64 (v30 - 1))) && (decide ((w64 (v30 - 1)) < v29 - v28) && decide (v28 + (w64 (v30 - 1)) < (v31.length:Int)))) then (at_ v31 (v28 + (w64 (v30 - 1))) fun x38=>(eq x37 x38 (fun r39=>(bif (!r39) then (bif (decide (0≤v30) && (decide (v30 < v29 - v28) && decide (v28 + v30 < (v31.length:Int)))) then (at_ v31 (v28 + v30) fun x40=>(inr v31 v27 (at_ v31 v27 fun x41=>yeuy eq n (w64 (v27 + 1)) v28 v29 (w64 (v30 + 1)) (set_ v31 v27 x40) e0))) else none) else yeuy eq n v27 v28 v29 (w64 (v30 + 1)) v31 e0)))) else none)) else none) else e0 v27 v31)
def sCut {α:Type} (z:α) (e36:Int) (e37:List α) {R:Type} (e0:List α→Option R):Option R:=(bif (decide (0 < e37.length) && (decide (0≤e36) && decide (e36≤(e37.length:Int)))) then (bif (decide (0≤e36) && (decide (e36≤(e37.length:Int)) && decide (((e37.length:Int)).toNat≤e37.length))) then (bif (decide (0≤e36) && decide (e36≤((e37.take (e36).toNat ++ (List.replicate ((e37.length:Int) - e36).toNat z ++ e37.drop ((e37.length:Int)).toNat)).length:Int))) then e0 ((e37.take (e36).toNat ++ (List.replicate ((e37.length:Int) - e36).toNat z ++ e37.drop ((e37.length:Int)).toNat)).take (e36:Int).toNat) else none) else none) else none)
theorem yLhy {α:Type} {z:α} {i:Nat} {l:List α} (h0:0 < l.length) (h:i≤l.length) {R:Type} (e0:List α→Option R):sCut z (i:Int) l e0 = e0 (l.take i):=by
 unfold sCut
 have d1:(decide (0 < l.length) && (decide (0≤(i:Int)) && decide ((i:Int)≤(l.length:Int)))) = true:=by simp; omega
 have d2:(decide (0≤(i:Int)) && (decide ((i:Int)≤(l.length:Int)) && decide (((l.length:Int)).toNat≤l.length))) = true:=by simp; omega
 have d3:(decide (0≤(i:Int)) && decide ((i:Int)≤((l.take ((i:Int)).toNat ++ (List.replicate ((l.length:Int) - (i:Int)).toNat z ++ l.drop ((l.length:Int)).toNat)).length:Int))) = true:=by
  simp; omega
 rw [d1,d2,d3]
 simp only [cond_true]
 congr 1
 rw [Int.toNat_natCast,List.take_append_of_le_length (by simp; omega),List.take_take]
 simp
def yihy {α:Type} (N:Nat) (z:α) (eq:EqT α):Nat→Int→List α→{R:Type}→(List α→Option R)→(List α→Option R)→Option R
 | 0,_,_,_,_,_=>none
 | n + 1,v2,v3,_,e0,e1=>(bif (decide (v2 < (v3.length:Int))) then (inr v3 v2 (at_ v3 v2 fun x24=>(inr v3 (w64 (v2 - 1)) (at_ v3 (w64 (v2 - 1)) fun x25=>(eq x24 x25 (fun r26=>(bif r26 then (bif (decide (0 < v3.length) && (decide (0≤v2) && decide (v2≤(v3.length:Int)))) then (yeuy eq N v2 v2 (v3.length:Int) 1 v3 (fun e42 e43=>sCut z e42 e43 e0)) else none) else yihy N z eq n (w64 (v2 + 1)) v3 e0 e1))))))) else e1 v3)
def sComp {α:Type} (N:Nat) (z:α) (eq:EqT α) (a1:List α) {R:Type} (k0:List α→Option R):Option R :=
 (bif (decide ((a1.length:Int) < 2)) then k0 a1 else (yihy N z eq N 1 a1 (fun e44=>k0 e44) (fun e45=>k0 e45)))
theorem yjhy {α:Type} (eq:EqT α) (q:α→α→Bool) (S:α→Prop) (he:∀ x y,S x→S y→∀ (R:Type) (k:Bool→Option R),eq x y k = k (q x y)) (i len:Nat) (hlen:len < 4611686018427380000) :
  ∀ (rest:List α) (p:α) (n k j:Nat) (l out:List α),l.length = len→l.drop (j - 1) = p :: rest→i + 1≤j→k + 1≤j→l.take k = out→(∀ y ∈ p :: rest,S y)→rest.length < n →
  ∃ (k':Nat) (l':List α),l'.length = len∧k'≤len∧l'.take k' = out ++ yaRy q p rest∧∀ (R:Type) (e0:Int→List α→Option R),yeuy eq n (k:Int) (i:Int) (len:Int) ((j - i:Nat):Int) l e0 = e0 (k':Int) l'
 | _,_,0,_,_,_,_,_,_,_,_,_,_,h=>by omega
 | [],p,n + 1,k,j,l,out,h1,h2,h3,h4,h5,h6,h7=>by
  have hd:=yamy h2
  simp at hd
  refine ⟨k,l,h1,by omega,by simp [yaRy,h5],fun R e0=>?_⟩
  rw [yeuy,decide_eq_false (by omega)]; rfl
 | y :: ys,p,n + 1,k,j,l,out,h1,h2,h3,h4,h5,h6,h7=>by
  have hd:=yamy h2
  have hj:j - 1 + 1 = j:=by omega
  rw [hj] at hd
  have hd2:=yamy hd.2.2.1
  have hy:S y:=h6 y (by simp)
  have hp:S p:=h6 p (by simp)
  have hlt:j < l.length:=hd2.2.1
  have d1:decide (((j - i:Nat):Int) < (((len:Int) - (i:Int)).toNat:Int)) = true:=decide_eq_true (by omega)
  have d2:(decide (0≤((j - i:Nat):Int)) && (decide (((j - i:Nat):Int) < (len:Int) - (i:Int)) && decide ((i:Int) + ((j - i:Nat):Int) < (l.length:Int)))) = true:=by simp; omega
  have e1:w64 (((j - i:Nat):Int) - 1) = ((j - i - 1:Nat):Int):=by rw [yaqy (by omega) (by omega)]; omega
  have d3:(decide (0≤((j - i - 1:Nat):Int)) && (decide (((j - i - 1:Nat):Int) < (len:Int) - (i:Int)) && decide ((i:Int) + ((j - i - 1:Nat):Int) < (l.length:Int)))) = true:=by simp; omega
  have t1:(i:Int) + ((j - i:Nat):Int) = (j:Int):=by omega
  have t2:(i:Int) + ((j - i - 1:Nat):Int) = ((j - 1:Nat):Int):=by omega
  have e2:w64 (((j - i:Nat):Int) + 1) = ((j + 1 - i:Nat):Int):=by rw [yaqy (by omega) (by omega)]; omega
  have e3:w64 ((k:Int) + 1) = ((k + 1:Nat):Int):=yaAy (by omega)
  cases hq:q y p with
  | true =>
   obtain ⟨k',l',a1,a2,a3,a4⟩:=yjhy eq q S he i len hlen ys y n k (j + 1) l out h1 (by simpa using hd.2.2.1) (by omega) (by omega) h5 (fun z hz=>h6 z (List.mem_cons_of_mem _ hz)) (by simp at h7; omega)
   refine ⟨k',l',a1,a2,by rw [a3]; simp [yaRy,hq],fun R e0=>?_⟩
   rw [yeuy,d1]
   simp only [cond_true,d2,e1,d3]
   rw [t1,yaUy hd2.1,t2,yaUy hd.1,he y p hy hp,hq]
   simp only [Bool.not_true,cond_false]
   rw [e2]
   exact a4 R e0
  | false =>
   have hk:k < l.length:=by omega
   have gk:l[k]? = some l[k]:=List.getElem?_eq_getElem hk
   obtain ⟨k',l',a1,a2,a3,a4⟩:=yjhy eq q S he i len hlen ys y n (k + 1) (j + 1) (l.set k y) (out ++ [y]) (by simpa using h1) (by
     show (l.set k y).drop j = y :: ys
     rw [List.drop_set_of_lt (by omega)]; exact hd.2.2.1) (by omega) (by omega) (by
     rw [List.take_add_one,List.getElem?_set_self hk,← h5]; simp [List.take_set_of_le (Nat.le_refl k)]) (fun z hz=>h6 z (List.mem_cons_of_mem _ hz)) (by simp at h7; omega)
   refine ⟨k',l',a1,a2,by rw [a3]; simp [yaRy,hq],fun R e0=>?_⟩
   rw [yeuy,d1]
   simp only [cond_true,d2,e1,d3]
   rw [t1,yaUy hd2.1,t2,yaUy hd.1,he y p hy hp,hq]
   simp only [Bool.not_false,cond_true]
   rw [yaUy hd2.1,ya6y hk,yaUy gk,e2,e3,ygvy]
   exact a4 R e0
theorem yrjy {α:Type} (N:Nat) (z:α) (eq:EqT α) (q:α→α→Bool) (S:α→Prop) (he:∀ x y,S x→S y→∀ (R:Type) (k:Bool→Option R),eq x y k = k (q x y)) (l:List α) (hl:l.length < 4611686018427380000) (hN:l.length < N) (hS:∀ y ∈ l,S y) :
  ∀ (rest:List α) (p:α) (n i:Nat),l.drop (i - 1) = p :: rest→1≤i→rest.length < n→∀ (R:Type) (k:List α→Option R),yihy N z eq n (i:Int) l k k = k (l.take i ++ yaRy q p rest)
 | _,_,0,_,_,_,h,_,_=>by omega
 | [],p,n + 1,i,h,hi,_,R,k=>by
  have hd:=yamy h
  simp at hd
  rw [yihy,decide_eq_false (by omega)]
  simp only [cond_false]
  congr 1
  rw [List.take_of_length_le (by omega)]; simp [yaRy]
 | y :: ys,p,n + 1,i,h,hi,hn,R,k=>by
  have hd:=yamy h
  have hj:i - 1 + 1 = i:=by omega
  rw [hj] at hd
  have hd2:=yamy hd.2.2.1
  have hy:S y:=hS y (ybuy hd.2.2.1)
  have hp:S p:=hS p (ybuy h)
  have hlt:i < l.length:=hd2.2.1
  rw [yihy,decide_eq_true (by omega)]
  simp only [cond_true]
  rw [ya6y hlt,yaUy hd2.1,yvZy (by omega) (by omega),ya6y (by omega),yaUy hd.1,he y p hy hp]
  unfold yaRy
  cases hq:q y p with
  | true =>
   simp only [cond_true,if_true]
   rw [show (decide (0 < l.length) && (decide (0≤(i:Int)) && decide ((i:Int)≤(l.length:Int)))) = true by simp; omega]
   obtain ⟨k',l',a1,a2,a3,a4⟩:=yjhy eq q S he i l.length hl ys y N i (i + 1) l (l.take i) rfl (by simpa using hd.2.2.1) (by omega) (by omega) rfl (fun w hw=>hS w (by
     rcases List.mem_cons.1 hw with rfl | hw
     ·exact ybuy hd.2.2.1
     ·exact yIwy hd2.2.2.1 w hw)) (by omega)
   have e:((i + 1 - i:Nat):Int) = 1:=by omega
   rw [e] at a4
   simp only [cond_true,a4]
   rw [yLhy (by omega) (by omega),a3]
  | false =>
   simp only [cond_false,Bool.false_eq_true,if_false]
   rw [yaAy (by omega),yrjy N z eq q S he l hl hN hS ys y n (i + 1) (by simpa using hd.2.2.1) (by omega) (by simp at hn; omega) R k]
   congr 1
   rw [List.take_add_one,hd2.1]; simp
theorem yHhy {α:Type} {N:Nat} {z:α} {eq:EqT α} (q:α→α→Bool) (S:α→Prop) (he:∀ x y,S x→S y→∀ (R:Type) (k:Bool→Option R),eq x y k = k (q x y)) (l:List α) (hl:N < 4611686018427380000) (hN:l.length < N) (hS:∀ y ∈ l,S y) {R:Type} (k:List α→Option R) :
  sComp N z eq l k = k (ycvy q l):=by
 unfold sComp
 match l,hN,hS with
 | [],_,_=>rfl
 | [x],_,_=>rfl
 | x :: y :: ys,hN,hS =>
  rw [decide_eq_false (by simp; omega)]
  have h:=yrjy N z eq q S he (x :: y :: ys) (by omega) hN hS (y :: ys) x N 1 rfl (by omega) (by simp at hN ⊢; omega) R k
  refine Eq.trans h ?_
  simp [ycvy]
theorem yr7y {α:Type} {by_:Nat} (l:List α) (hl:l.length≤1000000) (hby:by_≤10000) {R:Type} (k:List α→Option R):ydNy by_ l k = k l:=by
 have p1:l.length * by_≤10000000000:=Nat.le_trans (Nat.mul_le_mul hl hby) (by omega)
 unfold ydNy
 rw [decide_eq_true (show l.length * by_≤140737488355328 by omega),decide_eq_true (show l.length≤maxLen by unfold maxLen; omega)]
 rfl
theorem room1 {α:Type} (l:List α) (x:α) (by_:Nat) (hl:l.length≤1000000) (hby:by_≤10000):decide ((l.length + [x].length) * by_≤yaly) = true:=by
 have p1:(l.length + [x].length) * by_≤1000001 * 10000:=Nat.mul_le_mul (by simp; omega) hby
 exact decide_eq_true (by unfold yaly; omega)
end Go.Am
