/- The plain law, in Lean alone: B1, B2, B3, B4, B5, B7, B8, B9. No condition: lemmas for the claim. -/
import Derived.Test.YtmhbhdhddlbdlaaGreatDoorAmPrint
import Derived.KernelRfl
set_option linter.unusedVariables false
set_option linter.unusedSimpArgs false
set_option maxRecDepth 100000
namespace Go.Am
open Go
theorem yayy {x:Int} (h1:-9223372036854775808≤x) (h2:x≤9223372036854775807):w64 x = x:=by
 unfold w64 IntKind.wrap
 simp [IntKind.bits,IntKind.signed]
 omega
theorem yauy {i:Nat} (h:i < 4611686018427387904):w64 ((i:Int) + 1) = ((i + 1:Nat):Int):=by
 rw [yayy (by omega) (by omega)]; omega
theorem yf8y {i:Nat} (h:i < 4611686018427387904) (h0:0 < i):w64 ((i:Int) - 1) = ((i - 1:Nat):Int):=by
 rw [yayy (by omega) (by omega)]; omega
theorem yaOy {α:Type} {l:List α} {i:Nat} {x:α} (h:l[i]? = some x) {R:Type} (k:α→Option R):at_ l (i:Int) k = k x:=by
 unfold at_; rw [Int.toNat_natCast,h]
theorem yvJy {α:Type} {l:List α} {i:Int} {x:α} (h:l[i.toNat]? = some x) {R:Type} (k:α→Option R):at_ l i k = k x:=by
 unfold at_; rw [h]
theorem yesy {α:Type} {l:List α} {i:Nat} {x:α} (h:l[i]? = some x) {R:Type} (k:α→Option R):get_ l (i:Int) k = k x:=by
 unfold get_; rw [yaOy h]; simp
theorem ybEy {α:Type} {l:List α} {i:Nat} (h:i < l.length) {R:Type} (k:Option R):inr l (i:Int) k = k:=by
 unfold inr; rw [decide_eq_true (show 0≤(i:Int) by omega),decide_eq_true (show (i:Int) < (l.length:Int) by omega)]; rfl
theorem yhDy {α:Type} {l:List α} {i:Nat} {x:α}:set_ l (i:Int) x = l.set i x:=by unfold set_; rw [Int.toNat_natCast]
theorem yaqy {α:Type} {l:List α} {i:Nat} {x:α} {xs:List α} (h:l.drop i = x :: xs):l[i]? = some x∧i < l.length∧l.drop (i + 1) = xs∧l.length = i + 1 + xs.length:=by
 have h1:l[i]? = some x:=by
  have:=congrArg (fun t=>t[0]?) h
  simpa [List.getElem?_drop] using this
 have h2:i < l.length:=by
  rcases Nat.lt_or_ge i l.length with h2 | h2
  ·exact h2
  ·rw [List.getElem?_eq_none h2] at h1; cases h1
 have h3:=congrArg List.length h
 simp at h3
 refine ⟨h1,h2,?_,by omega⟩
 rw [← List.drop_drop,h]; rfl
theorem yFNy {α:Type} {l:List α} {i:Nat} (h:l.drop i = []):l.length≤i:=by
 have:=congrArg List.length h
 simp at this; omega
theorem ybdy {α:Type} {l:List α} {i:Nat} {x:α} {xs:List α} (h:l.drop i = x :: xs):decide ((i:Int) < (l.length:Int)) = true:=by
 have:=(yaqy h).2.1; exact decide_eq_true (by omega)
theorem ybqy {α:Type} {l:List α} {i:Nat} (h:l.drop i = []):decide ((i:Int) < (l.length:Int)) = false:=by
 have:=yFNy h; exact decide_eq_false (by omega)
theorem ya2y {α:Type} {l:List α} {i:Nat} {x:α} {xs:List α} (h:l.drop i = x :: xs) {R:Type} (k:α→Option R):get_ l (i:Int) k = k x:=yesy (yaqy h).1 k
theorem yF6y {α:Type} {l:List α} {i:Nat} {x:α} {xs:List α} (h:l.drop i = x :: xs) {R:Type} (k:α→Option R):at_ l (i:Int) k = k x:=yaOy (yaqy h).1 k
theorem yoSy {α:Type} {l:List α} {i:Nat} {x:α} {xs:List α} (h:l.drop i = x :: xs) {R:Type} (k:Option R):inr l (i:Int) k = k:=ybEy (yaqy h).2.1 k
theorem ygMy {α:Type} {l:List α} {i:Nat} {p:α} {xs:List α} (h:l.drop (i - 1) = p :: xs) (h0:0 < i) (hl:l.length < 4611686018427387904) {R:Type} (k:α→Option R):get_ l (w64 ((i:Int) - 1)) k = k p:=by
 have:=(yaqy h).2.1
 rw [yf8y (by omega) h0]; exact ya2y h k
theorem ybPy {α:Type} {l:List α} {i:Nat} {x:α} {xs:List α} (h:l.drop i = x :: xs):x ∈ l:=List.mem_of_getElem? (yaqy h).1
theorem yEJy {α:Type} {l:List α} {i:Nat} {xs:List α} (h:l.drop i = xs):∀ x ∈ xs,x ∈ l:=by
 subst h; exact fun x hx=>List.mem_of_mem_drop hx
end Go.Am
set_option linter.unusedVariables false
set_option linter.unusedSimpArgs false
set_option maxRecDepth 100000
namespace Go.Am
open Go
def ygGy {α:Type} (ne:α→α→Bool):Nat→List α→List α→Int→Int→{R:Type}→(Bool→Option R)→Option R→Option R
 | 0,_,_,_,_,_,_,_=>none
 | n + 1,v3,v4,v5,v6,_,e0,e1=>(bif (decide (v6 < v5)) then (get_ v3 v6 fun x9=>(get_ v4 v6 fun x10=>(bif (ne x9 x10) then e0 false else ygGy ne n v3 v4 v5 (w64 (v6 + 1)) e0 e1))) else e1)
def yrhy {α:Type} (N:Nat) (ne:α→α→Bool) (a b:List α) {R:Type} (k0:Bool→Option R):Option R :=
 (bif ((a.length:Int) != (b.length:Int)) then k0 false else (ygGy ne N a b (a.length:Int) 0 (fun e11=>k0 e11) (k0 true)))
theorem yoly {α:Type} (ne:α→α→Bool) (l:List α) (hl:l.length < 4611686018427387904) (hne:∀ x,ne x x = false):∀ (xs:List α) (n i:Nat),l.drop i = xs→xs.length < n→∀ (R:Type) (e0:Bool→Option R) (e1:Option R),ygGy ne n l l (l.length:Int) (i:Int) e0 e1 = e1
 | _,0,_,_,h,_,_,_=>by omega
 | [],n + 1,i,h,_,_,_,_=>by rw [ygGy,ybqy h]; rfl
 | x :: xs,n + 1,i,h,hn,R,e0,e1=>by
  have h':=yaqy h
  rw [ygGy,ybdy h]
  simp only [cond_true,ya2y h,hne,cond_false]
  rw [yauy (by omega)]
  exact yoly ne l hl hne xs n (i + 1) h'.2.2.1 (by simp at hn; omega) R e0 e1
theorem yx9y {α:Type} {N:Nat} {ne:α→α→Bool} {l:List α} (hN:l.length < N) (hN2:N≤4611686018427387904) (hne:∀ x,ne x x = false) {R:Type} (k:Bool→Option R):yrhy N ne l l k = k true:=by
 unfold yrhy
 have h:=yoly ne l (by omega) hne l N 0 rfl hN R (fun e11=>k e11) (k true)
 simp only [bne_self_eq_false,cond_false]
 exact h
def idxI {α:Type} (p:α→Bool) (l:List α):Int:=match l.findIdx? p with | some i=>(i:Int) | none=>-1
theorem yzBy {α:Type} (p:α→Bool) (l:List α):decide (idxI p l ≥ 0) = l.any p:=by
 unfold idxI
 cases h:l.findIdx? p with
 | some i =>
  have:=List.findIdx?_isSome (xs:=l) (p:=p)
  rw [h] at this
  show decide ((i:Int) ≥ 0) = _
  rw [decide_eq_true (by omega)]
  simpa using this
 | none =>
  have:=List.findIdx?_isSome (xs:=l) (p:=p)
  rw [h] at this
  simp at this ⊢
  intro x hx
  exact this x hx
def ye8y {α β:Type} (eq:β→α→Bool):Nat→List α→β→Int→Int→{R:Type}→(Int→Option R)→Option R→Option R
 | 0,_,_,_,_,_,_,_=>none
 | n + 1,v3,v6,v4,v5,_,e0,e1=>(bif (decide (v5 < v4)) then (get_ v3 v5 fun x8=>(bif (eq v6 x8) then e0 v5 else ye8y eq n v3 v6 v4 (w64 (v5 + 1)) e0 e1)) else e1)
theorem ylZy {α β:Type} (eq:β→α→Bool) (v:β) (l:List α) (hl:l.length < 4611686018427387904):∀ (xs:List α) (n i:Nat),l.drop i = xs→xs.length < n→∀ (R:Type) (e0:Int→Option R) (e1:Option R),
  ye8y eq n l v (l.length:Int) (i:Int) e0 e1 = match xs.findIdx? (eq v) with | some j=>e0 ((i + j:Nat):Int) | none=>e1
 | _,0,_,_,h,_,_,_=>by omega
 | [],n + 1,i,h,_,_,_,_=>by rw [ye8y,ybqy h]; rfl
 | x :: xs,n + 1,i,h,hn,R,e0,e1=>by
  have h':=yaqy h
  rw [ye8y,ybdy h]
  simp only [cond_true,ya2y h,List.findIdx?_cons]
  cases hq:eq v x with
  | true=>simp
  | false =>
   simp only [cond_false]
   rw [yauy (by omega),ylZy eq v l hl xs n (i + 1) h'.2.2.1 (by simp at hn; omega) R e0 e1]
   cases xs.findIdx? (eq v) with
   | none=>rfl
   | some j=>simp; congr 1; omega
def ym6y {α β:Type} (N:Nat) (eq:β→α→Bool) (a1:List α) (a2:β) {R:Type} (k0:Int→Option R):Option R:=(ye8y eq N a1 a2 (a1.length:Int) 0 (fun e9=>k0 e9) (k0 (-1)))
theorem yAZy {α β:Type} {N:Nat} (eq:β→α→Bool) (v:β) (l:List α) (hN:l.length < N) (hN2:N≤4611686018427387904) {R:Type} (k:Int→Option R) :
  ym6y N eq l v k = k (idxI (eq v) l):=by
 unfold ym6y
 have h:=ylZy eq v l (by omega) l N 0 rfl hN R (fun e9=>k e9) (k (-1))
 refine h.trans ?_
 unfold idxI
 cases l.findIdx? (eq v) with
 | none=>rfl
 | some j=>simp
def yeMy {α σ:Type} (f:α→σ→{R:Type}→(Bool→σ→Option R)→Option R):Nat→List α→Int→Int→σ→{R:Type}→(Int→σ→Option R)→(σ→Option R)→Option R
 | 0,_,_,_,_,_,_,_=>none
 | n + 1,v3,v4,v5,v6,_,e0,e1=>(bif (decide (v5 < v4)) then (get_ v3 v5 fun x10=>(f x10 v6 (fun r11 r12=>(bif r11 then e0 v5 r12 else yeMy f n v3 v4 (w64 (v5 + 1)) r12 e0 e1)))) else e1 v6)
theorem ymhy {α σ:Type} (f:α→σ→{R:Type}→(Bool→σ→Option R)→Option R) (p:α→Bool) (s:σ) (l:List α) (hf:∀ x ∈ l,∀ (R:Type) (k:Bool→σ→Option R),f x s k = k (p x) s) (hl:l.length < 4611686018427387904) :
  ∀ (xs:List α) (n i:Nat),l.drop i = xs→xs.length < n→∀ (R:Type) (e0:Int→σ→Option R) (e1:σ→Option R),
  yeMy f n l (l.length:Int) (i:Int) s e0 e1 = match xs.findIdx? p with | some j=>e0 ((i + j:Nat):Int) s | none=>e1 s
 | _,0,_,_,h,_,_,_=>by omega
 | [],n + 1,i,h,_,_,_,_=>by rw [yeMy,ybqy h]; rfl
 | x :: xs,n + 1,i,h,hn,R,e0,e1=>by
  have h':=yaqy h
  rw [yeMy,ybdy h]
  simp only [cond_true,ya2y h,List.findIdx?_cons,hf x (ybPy h)]
  cases hq:p x with
  | true=>simp
  | false =>
   simp only [cond_false]
   rw [yauy (by omega),ymhy f p s l hf hl xs n (i + 1) h'.2.2.1 (by simp at hn; omega) R e0 e1]
   cases xs.findIdx? p with
   | none=>rfl
   | some j=>simp; congr 1; omega
def ymYy {α σ:Type} (N:Nat) (f:α→σ→{R:Type}→(Bool→σ→Option R)→Option R) (a1:List α) (a2:σ) {R:Type} (k0:Int→σ→Option R):Option R:=(yeMy f N a1 (a1.length:Int) 0 a2 (fun e9 e10=>k0 e9 e10) (fun e=>k0 (-1) e))
theorem yz9y {α σ:Type} {N:Nat} (f:α→σ→{R:Type}→(Bool→σ→Option R)→Option R) (p:α→Bool) (s:σ) (l:List α) (hf:∀ x ∈ l,∀ (R:Type) (k:Bool→σ→Option R),f x s k = k (p x) s) (hN:l.length < N) (hN2:N≤4611686018427387904) {R:Type} (k:Int→σ→Option R) :
  ymYy N f l s k = k (idxI p l) s:=by
 unfold ymYy
 have h:=ymhy f p s l hf (by omega) l N 0 rfl hN R (fun e9 e10=>k e9 e10) (fun e=>k (-1) e)
 refine h.trans ?_
 unfold idxI
 cases l.findIdx? p with
 | none=>rfl
 | some j=>simp
def yjDy {α:Type} (cmp:CmpT α):Nat→Int→Int→Int→Int→List α→{R:Type}→(Int→Int→Int→List α→Option R)→Option R
 | 0,_,_,_,_,_,_,_=>none
 | n + 1,v31,v32,v33,v34,v35,_,e0=>(bif (decide (v34 > v31)) then (inr v35 v34 (at_ v35 v34 fun x43=>(inr v35 (w64 (v34 - 1)) (at_ v35 (w64 (v34 - 1)) fun x44=>(cmp x43 x44 (fun r45=>(bif (decide (r45 < 0)) then (inr v35 (w64 (v34 - 1)) (at_ v35 (w64 (v34 - 1)) fun x46=>(inr v35 v34 (at_ v35 v34 fun x47=>(inr v35 v34 (at_ v35 v34 fun x48=>(inr (set_ v35 v34 x46) (w64 (v34 - 1)) (at_ (set_ v35 v34 x46) (w64 (v34 - 1)) fun x49=>yjDy cmp n v31 v32 v33 (w64 (v34 - 1)) (set_ (set_ v35 v34 x46) (w64 (v34 - 1)) x47) e0)))))))) else e0 v31 v32 v33 v35))))))) else e0 v31 v32 v33 v35)
def yf0y {α:Type} (N:Nat) (cmp:CmpT α):Nat→Int→Int→Int→List α→{R:Type}→(List α→Option R)→Option R
 | 0,_,_,_,_,_,_=>none
 | n + 1,v4,v5,v6,v7,_,e0=>(bif (decide (v6 < v5)) then (yjDy cmp N v4 v5 v6 v6 v7 (fun e50 e51 e52 e53=>yf0y N cmp n e50 e51 (w64 (e52 + 1)) e53 e0)) else e0 v7)
def sIns {α:Type} (N:Nat) (cmp:CmpT α) (a1:List α) (a2 a3:Int) {R:Type} (k0:List α→Option R):Option R :=
 (yf0y N cmp N a2 a3 (w64 (a2 + 1)) a1 (fun e54=>k0 e54))
def ycWy {α:Type} (c:α→α→Int) (x:α):List α→List α
 | []=>[x]
 | y :: ys=>if c x y < 0 then y :: ycWy c x ys else x :: y :: ys
def yc1y {α:Type} (c:α→α→Int):List α→List α→List α
 | acc,[]=>acc
 | acc,x :: xs=>yc1y c (ycWy c x acc) xs
def sortI {α:Type} (c:α→α→Int) (l:List α):List α:=(yc1y c [] l).reverse
theorem yc0y {α:Type} (c:α→α→Int) (x:α):∀ l:List α,(ycWy c x l).Perm (x :: l)
 | []=>.refl _
 | y :: ys=>by
  unfold ycWy
  split
  ·exact ((yc0y c x ys).cons y).trans (List.Perm.swap x y ys)
  ·exact .refl _
theorem ymay {α:Type} (c:α→α→Int):∀ (l acc:List α),(yc1y c acc l).Perm (acc ++ l)
 | [],acc=>by simp [yc1y]
 | x :: xs,acc=>by
  unfold yc1y
  refine (ymay c xs _).trans ?_
  refine ((yc0y c x acc).append_right xs).trans ?_
  exact (List.perm_middle (l₁:=acc) (l₂:=xs) (a:=x)).symm
theorem ykAy {α:Type} (c:α→α→Int) (l:List α):(sortI c l).Perm l:=by
 unfold sortI
 exact (List.reverse_perm _).trans (by simpa using ymay c l [])
theorem yimy {α:Type} (c:α→α→Int) (l:List α):(sortI c l).length = l.length:=(ykAy c l).length_eq
theorem ysUy {α:Type} {c:α→α→Int} {l:List α} {x:α}:x ∈ sortI c l ↔ x ∈ l:=(ykAy c l).mem_iff
theorem ylfy {α:Type} {c:α→α→Int} {S:α→Prop} (hp:Pre c S) (x:α) (hx:S x):∀ l:List α,(∀ y ∈ l,S y)→l.Pairwise (fun a b=>c b a≤0)→(ycWy c x l).Pairwise (fun a b=>c b a≤0)
 | [],_,_=>by simp [ycWy]
 | y :: ys,hS,h=>by
  have hy:S y:=hS y (by simp)
  have hys:∀ z ∈ ys,S z:=fun z hz=>hS z (by simp [hz])
  unfold ycWy
  have h':=List.pairwise_cons.1 h
  split
  ·rename_i hlt
   refine List.pairwise_cons.2 ⟨fun z hz=>?_,ylfy hp x hx ys hys h'.2⟩
   rcases List.mem_cons.1 ((yc0y c x ys).mem_iff.1 hz) with rfl | hz
   ·exact Int.le_of_lt hlt
   ·exact h'.1 z hz
  ·rename_i hlt
   have hyx:c y x≤0:=by
    rcases hp.total y x hy hx with h1 | h1
    ·exact h1
    ·have:=(hp.neg x y hx hy)
     by_cases h2:c y x≤0
     ·exact h2
     ·exact absurd (this.2 h2) hlt
   refine List.pairwise_cons.2 ⟨fun z hz=>?_,h⟩
   rcases List.mem_cons.1 hz with rfl | hz
   ·exact hyx
   ·exact hp.trans z y x (hys z hz) hy hx (h'.1 z hz) hyx
theorem yj0y {α:Type} {c:α→α→Int} {S:α→Prop} (hp:Pre c S):∀ l acc:List α,(∀ y ∈ l,S y)→(∀ y ∈ acc,S y)→acc.Pairwise (fun a b=>c b a≤0)→(yc1y c acc l).Pairwise (fun a b=>c b a≤0)
 | [],_,_,_,h=>h
 | x :: xs,acc,h1,h2,h=>by
  unfold yc1y
  refine yj0y hp xs _ (fun y hy=>h1 y (by simp [hy])) (fun y hy=>?_) (ylfy hp x (h1 x (by simp)) acc h2 h)
  rcases List.mem_cons.1 ((yc0y c x acc).mem_iff.1 hy) with rfl | hy
  ·exact h1 _ (by simp)
  ·exact h2 y hy
theorem ylGy {α:Type} {c:α→α→Int} {S:α→Prop} (hp:Pre c S) (l:List α) (h:∀ y ∈ l,S y):(sortI c l).Pairwise (fun a b=>c a b≤0):=by
 unfold sortI
 rw [List.pairwise_reverse]
 exact yj0y hp l [] h (fun y hy=>by cases hy) List.Pairwise.nil
theorem yjBy {α:Type} (pre:List α) (a b:α) (post:List α):(pre ++ a :: post).set pre.length b = pre ++ b :: post:=by
 induction pre with
 | nil=>rfl
 | cons x xs ih=>simp [ih]
theorem ynty {α:Type} (pre:List α) (a:α) (post:List α):(pre ++ a :: post)[pre.length]? = some a:=by simp
theorem yqhy {α:Type} (cmp:CmpT α) (c:α→α→Int) (S:α→Prop) (hc:∀ x y,S x→S y→∀ (R:Type) (k:Int→Option R),cmp x y k = k (c x y)) (x:α) (hx:S x) (b i:Int) :
  ∀ (rs post:List α) (n:Nat),(∀ y ∈ rs,S y)→rs.length < n→rs.length + post.length < 4611686018427387000→∀ (R:Type) (e0:Int→Int→Int→List α→Option R),
  yjDy cmp n 0 b i (rs.length:Int) (rs.reverse ++ x :: post) e0 = e0 0 b i ((ycWy c x rs).reverse ++ post)
 | _,_,0,_,h,_,_,_=>by omega
 | [],post,n + 1,_,_,_,R,e0=>by rw [yjDy]; simp [ycWy]
 | y :: ys,post,n + 1,hS,hn,hl,R,e0=>by
  have hy:S y:=hS y (by simp)
  have e1:w64 (((y :: ys).length:Nat) - 1:Int) = (ys.length:Int):=by
   rw [yayy (by omega) (by simp at hl ⊢; omega)]; simp
  have hd:(y :: ys).reverse ++ x :: post = ys.reverse ++ y :: x :: post:=by simp
  have g1:(ys.reverse ++ y :: x :: post)[ys.length]? = some y:=by
   have:=ynty ys.reverse y (x :: post); rwa [List.length_reverse] at this
  have hd2:ys.reverse ++ y :: x :: post = (ys.reverse ++ [y]) ++ x :: post:=by simp
  have g2:(ys.reverse ++ y :: x :: post)[ys.length + 1]? = some x:=by
   have:=ynty (ys.reverse ++ [y]) x post
   rw [← hd2] at this; rwa [List.length_append,List.length_reverse] at this
  have len1:(ys.reverse ++ y :: x :: post).length = ys.length + 2 + post.length:=by simp; omega
  have s1:(ys.reverse ++ y :: x :: post).set (ys.length + 1) y = ys.reverse ++ y :: y :: post:=by
   have:=yjBy (ys.reverse ++ [y]) x y post
   rw [← hd2] at this
   rw [List.length_append,List.length_reverse] at this
   refine Eq.trans this ?_
   simp
  have s2:(ys.reverse ++ y :: y :: post).set ys.length x = ys.reverse ++ x :: y :: post:=by
   have:=yjBy ys.reverse y x (y :: post); rwa [List.length_reverse] at this
  have g3:(ys.reverse ++ y :: y :: post)[ys.length]? = some y:=by
   have:=ynty ys.reverse y (y :: post); rwa [List.length_reverse] at this
  have c1:(((y :: ys).length:Nat):Int) = ((ys.length + 1:Nat):Int):=by simp
  rw [yjDy]
  rw [decide_eq_true (show (((y :: ys).length:Nat):Int) > 0 by simp)]
  simp only [cond_true,hd,e1]
  rw [c1]
  rw [ybEy (by omega),yaOy g2,ybEy (by omega),yaOy g1,hc x y hx hy]
  unfold ycWy
  by_cases hlt:c x y < 0
  ·rw [decide_eq_true hlt,if_pos hlt]
   simp only [cond_true]
   rw [ybEy (by omega),yaOy g1,ybEy (by omega),yaOy g2,ybEy (by omega),yaOy g2,yhDy,s1,ybEy (by simp),yaOy g3,yhDy,s2]
   rw [yqhy cmp c S hc x hx b i ys (y :: post) n (fun z hz=>hS z (by simp [hz])) (by simp at hn; omega) (by simp at hl ⊢; omega) R e0]
   simp
  ·rw [decide_eq_false hlt,if_neg hlt]
   simp
theorem yqNy {α:Type} (N:Nat) (cmp:CmpT α) (c:α→α→Int) (S:α→Prop) (hc:∀ x y,S x→S y→∀ (R:Type) (k:Int→Option R),cmp x y k = k (c x y)) (len:Nat) (hlen:len < 4611686018427380000) (hN:len < N) :
  ∀ (rest acc:List α) (n:Nat),(∀ y ∈ acc,S y)→(∀ y ∈ rest,S y)→acc.length + rest.length = len→rest.length < n→∀ (R:Type) (e0:List α→Option R),
  yf0y N cmp n 0 (len:Int) (acc.length:Int) (acc.reverse ++ rest) e0 = e0 (yc1y c acc rest).reverse
 | _,_,0,_,_,_,h,_,_=>by omega
 | [],acc,n + 1,_,_,hl,_,R,e0=>by
  rw [yf0y,decide_eq_false (by simp at hl; omega)]
  simp [yc1y]
 | x :: xs,acc,n + 1,hS,hS2,hl,hn,R,e0=>by
  have hx:S x:=hS2 x (by simp)
  have hlx:(ycWy c x acc).length = acc.length + 1:=by rw [(yc0y c x acc).length_eq]; simp
  rw [yf0y,decide_eq_true (by simp at hl; omega)]
  simp only [cond_true]
  rw [yqhy cmp c S hc x hx (len:Int) (acc.length:Int) acc xs N hS (by simp at hl; omega) (by simp at hl; omega),yauy (by omega),← hlx]
  rw [yqNy N cmp c S hc len hlen hN xs (ycWy c x acc) n (fun y hy=>by
   rcases List.mem_cons.1 ((yc0y c x acc).mem_iff.1 hy) with rfl | hy
   ·exact hx
   ·exact hS y hy) (fun y hy=>hS2 y (by simp [hy])) (by simp at hl ⊢; omega) (by simp at hn; omega) R e0]
  rfl
theorem yzMy {α:Type} {N:Nat} {cmp:CmpT α} (c:α→α→Int) (S:α→Prop) (hc:∀ x y,S x→S y→∀ (R:Type) (k:Int→Option R),cmp x y k = k (c x y)) (l:List α) (hS:∀ y ∈ l,S y) (hN:l.length + 1 < N) (hN2:N≤4611686018427380000) {R:Type} (k:List α→Option R) :
  sIns N cmp l 0 (l.length:Int) k = k (sortI c l):=by
 unfold sIns
 rw [yayy (by omega) (by omega)]
 cases l with
 | nil =>
  obtain ⟨m,rfl⟩:∃ m,N = m + 1:=⟨N - 1,by omega⟩
  rw [yf0y]; simp [sortI,yc1y]
 | cons x xs =>
  have h:=yqNy N cmp c S hc (x :: xs).length (by omega) (by omega) xs [x] N (by simpa using hS x (by simp)) (fun y hy=>hS y (by simp [hy])) (by simp; omega) (by simp at hN; omega) R (fun e54=>k e54)
  simp only [List.length_singleton,List.reverse_singleton,List.singleton_append] at h
  exact h
theorem yFty {α:Type} {N:Nat} {cmp:CmpT α} (l:List α) (a:Int) (h1:-1000000≤a) (h2:a≤1000000000) (hN:0 < N) {R:Type} (k:List α→Option R):sIns N cmp l a a k = k l:=by
 unfold sIns
 obtain ⟨m,rfl⟩:∃ m,N = m + 1:=⟨N - 1,by omega⟩
 rw [yayy (by omega) (by omega),yf0y,decide_eq_false (by omega)]
 rfl
end Go.Am
set_option linter.unusedVariables false
set_option linter.unusedSimpArgs false
set_option maxRecDepth 100000
namespace Go.Am
open Go
def yhzy {α:Type} (ins:List α→Int→Int→{R:Type}→(List α→Option R)→Option R):Nat→Int→Int→Int→Int→List α→{R:Type}→(Int→Int→Int→List α→Option R)→Option R
 | 0,_,_,_,_,_,_,_=>none
 | n + 1,v3,v4,v5,v6,v7,_,e0=>(bif (decide (v6≤v3)) then (ins v7 v5 v6 (fun r9=>yhzy ins n v3 v4 v6 (w64 (v6 + v4)) r9 e0)) else e0 v3 v4 v5 v7)
theorem yADy {α:Type} {N M:Nat} {cmp:CmpT α} (c:α→α→Int) (S:α→Prop) (hc:∀ x y,S x→S y→∀ (R:Type) (k:Int→Option R),cmp x y k = k (c x y)) (l:List α) (hS:∀ y ∈ l,S y) (hl:l.length≤20) (hN:1000≤N) (hN2:N≤4611686018427380000) {R:Type} (e0:Int→Int→Int→List α→Option R)
  (ins:List α→Int→Int→{R:Type}→(List α→Option R)→Option R) (hi:∀ l a b (R:Type) (k:List α→Option R),ins l a b k = sIns N cmp l a b k) :
  (yhzy ins (M + 3) (l.length:Int) 20 0 20 l e0 = if l.length = 20 then e0 (l.length:Int) 20 20 (sortI c l) else e0 (l.length:Int) 20 0 l):=by
 rw [yhzy]
 by_cases h:l.length = 20
 ·rw [decide_eq_true (by omega),if_pos h]
  simp only [cond_true,hi]
  have h20:(20:Int) = (l.length:Int):=by omega
  have e1:=yzMy (N:=N) c S hc l hS (by omega) hN2 (fun r9=>yhzy ins (M + 2) (l.length:Int) 20 20 (w64 (20 + 20)) r9 e0)
  rw [← h20] at e1
  rw [← h20,e1,yhzy,yayy (by omega) (by omega),decide_eq_false (by omega)]
  rfl
 ·rw [decide_eq_false (by omega),if_neg h]
  rfl
def yGly {α:Type}:Nat→Int→Int→Int→Int→List α→{R:Type}→(Int→Int→Int→List α→Option R)→Option R
 | 0,_,_,_,_,_,_,_=>none
 | n + 1,v30,v31,v32,v33,v34,_,e0=>(bif (decide (v33≤v30)) then none else e0 v30 v31 v32 v34)
def ynMy {α:Type} (N:Nat):Nat→Int→Int→List α→{R:Type}→(List α→Option R)→Option R
 | 0,_,_,_,_,_=>none
 | n + 1,v15,v16,v17,_,e0=>(bif (decide (v16 < v15)) then (yGly N v15 v16 0 (w64 (2 * v16)) v17 (fun e37 e38 e39 e40=>(bif (decide ((w64 (e39 + e38)) < e37)) then none else ynMy N n e37 (w64 (e38 * 2)) e40 e0))) else e0 v17)
def sSta {α:Type} (N:Nat) (ins:List α→Int→Int→{R:Type}→(List α→Option R)→Option R) (a1:List α) (a2:Int) {R:Type} (k0:List α→Option R):Option R :=
 (yhzy ins N a2 20 0 20 a1 (fun e10 e11 e12 e13=>(ins e13 e12 e10 (fun r14=>(ynMy N N e10 e11 r14 (fun e42=>k0 e42))))))
theorem yF3y {α:Type} {N:Nat} {cmp:CmpT α} (c:α→α→Int) (S:α→Prop) (hc:∀ x y,S x→S y→∀ (R:Type) (k:Int→Option R),cmp x y k = k (c x y)) (l:List α) (hS:∀ y ∈ l,S y) (hl:l.length≤20) (hN:1000≤N) (hN2:N≤4611686018427380000) (ins:List α→Int→Int→{R:Type}→(List α→Option R)→Option R) (hi:∀ l a b (R:Type) (k:List α→Option R),ins l a b k = sIns N cmp l a b k) {R:Type} (k:List α→Option R) :
  sSta N ins l (l.length:Int) k = k (sortI c l):=by
 obtain ⟨m,rfl⟩:∃ m,N = m + 3:=⟨N - 3,by omega⟩
 unfold sSta
 rw [yADy (N:=m + 3) c S hc l hS hl hN hN2 _ ins hi]
 simp only [hi]
 have h7:∀ r:List α,ynMy (m + 3) (m + 3) (l.length:Int) 20 r k = k r:=fun r=>by
  rw [ynMy,decide_eq_false (by omega)]; rfl
 split
 ·rename_i h
  have h20:(l.length:Int) = 20:=by omega
  rw [h20] at h7 ⊢
  rw [yFty _ _ (by omega) (by omega) (by omega)]
  exact h7 _
 ·rw [yzMy c S hc l hS (by omega) hN2]
  exact h7 _
def yaCy {α:Type} (eq:α→α→Bool):α→List α→List α
 | _,[]=>[]
 | p,y :: ys=>if eq y p then yaCy eq y ys else y :: yaCy eq y ys
def ybuy {α:Type} (eq:α→α→Bool):List α→List α
 | []=>[]
 | x :: xs=>x :: yaCy eq x xs
theorem yg8y {α:Type} (eq:α→α→Bool):∀ (l:List α) (p x:α),x ∈ yaCy eq p l→x ∈ l
 | [],_,_,h=>by cases h
 | y :: ys,p,x,h=>by
  unfold yaCy at h
  split at h
  ·exact List.mem_cons_of_mem _ (yg8y eq ys y x h)
  ·rcases List.mem_cons.1 h with rfl | h
   ·exact List.mem_cons_self
   ·exact List.mem_cons_of_mem _ (yg8y eq ys y x h)
theorem yhQy {α:Type} {eq:α→α→Bool} {l:List α} {x:α} (h:x ∈ ybuy eq l):x ∈ l:=by
 cases l with
 | nil=>cases h
 | cons y ys =>
  rcases List.mem_cons.1 h with rfl | h
  ·exact List.mem_cons_self
  ·exact List.mem_cons_of_mem _ (yg8y eq ys y x h)
theorem ylgy {α:Type} (eq:α→α→Bool):∀ (l:List α) (p:α),(yaCy eq p l).length≤l.length
 | [],_=>Nat.le_refl _
 | y :: ys,p=>by
  unfold yaCy
  have:=ylgy eq ys y
  split <;> simp <;> omega
theorem yvuy {α:Type} (eq:α→α→Bool) (l:List α):(ybuy eq l).length≤l.length:=by
 cases l with
 | nil=>exact Nat.le_refl _
 | cons y ys=>have:=ylgy eq ys y; simp [ybuy]; omega
def EqT (α:Type):Type 1:=α→α→{R:Type}→(Bool→Option R)→Option R
def yejy {α:Type} (eq:EqT α):Nat→Int→Int→Int→Int→List α→{R:Type}→(Int→List α→Option R)→Option R
 | 0,_,_,_,_,_,_,_=>none
 | n + 1,v27,v28,v29,v30,v31,_,e0=>(bif (decide (v30 < ((v29 - v28).toNat:Int))) then (bif (decide (0≤v30) && (decide (v30 < v29 - v28) && decide (v28 + v30 < (v31.length:Int)))) then (at_ v31 (v28 + v30) fun x37=>(bif (decide (0≤(w64 (v30 - 1))) && (decide ((w64 (v30 - 1)) < v29 - v28) && decide (v28 + (w64 (v30 - 1)) < (v31.length:Int)))) then (at_ v31 (v28 + (w64 (v30 - 1))) fun x38=>(eq x37 x38 (fun r39=>(bif (!r39) then (bif (decide (0≤v30) && (decide (v30 < v29 - v28) && decide (v28 + v30 < (v31.length:Int)))) then (at_ v31 (v28 + v30) fun x40=>(inr v31 v27 (at_ v31 v27 fun x41=>yejy eq n (w64 (v27 + 1)) v28 v29 (w64 (v30 + 1)) (set_ v31 v27 x40) e0))) else none) else yejy eq n v27 v28 v29 (w64 (v30 + 1)) v31 e0)))) else none)) else none) else e0 v27 v31)
def sCut {α:Type} (z:α) (e36:Int) (e37:List α) {R:Type} (e0:List α→Option R):Option R:=(bif (decide (0 < e37.length) && (decide (0≤e36) && decide (e36≤(e37.length:Int)))) then (bif (decide (0≤e36) && (decide (e36≤(e37.length:Int)) && decide (((e37.length:Int)).toNat≤e37.length))) then (bif (decide (0≤e36) && decide (e36≤((e37.take (e36).toNat ++ (List.replicate ((e37.length:Int) - e36).toNat z ++ e37.drop ((e37.length:Int)).toNat)).length:Int))) then e0 ((e37.take (e36).toNat ++ (List.replicate ((e37.length:Int) - e36).toNat z ++ e37.drop ((e37.length:Int)).toNat)).take (e36:Int).toNat) else none) else none) else none)
theorem yF2y {α:Type} {z:α} {i:Nat} {l:List α} (h0:0 < l.length) (h:i≤l.length) {R:Type} (e0:List α→Option R):sCut z (i:Int) l e0 = e0 (l.take i):=by
 unfold sCut
 have d1:(decide (0 < l.length) && (decide (0≤(i:Int)) && decide ((i:Int)≤(l.length:Int)))) = true:=by simp; omega
 have d2:(decide (0≤(i:Int)) && (decide ((i:Int)≤(l.length:Int)) && decide (((l.length:Int)).toNat≤l.length))) = true:=by simp; omega
 have d3:(decide (0≤(i:Int)) && decide ((i:Int)≤((l.take ((i:Int)).toNat ++ (List.replicate ((l.length:Int) - (i:Int)).toNat z ++ l.drop ((l.length:Int)).toNat)).length:Int))) = true:=by
  simp; omega
 rw [d1,d2,d3]
 simp only [cond_true]
 congr 1
 rw [Int.toNat_natCast,List.take_append_of_le_length (by simp; omega),List.take_take]
 simp
def yify {α:Type} (N:Nat) (z:α) (eq:EqT α):Nat→Int→List α→{R:Type}→(List α→Option R)→(List α→Option R)→Option R
 | 0,_,_,_,_,_=>none
 | n + 1,v2,v3,_,e0,e1=>(bif (decide (v2 < (v3.length:Int))) then (inr v3 v2 (at_ v3 v2 fun x24=>(inr v3 (w64 (v2 - 1)) (at_ v3 (w64 (v2 - 1)) fun x25=>(eq x24 x25 (fun r26=>(bif r26 then (bif (decide (0 < v3.length) && (decide (0≤v2) && decide (v2≤(v3.length:Int)))) then (yejy eq N v2 v2 (v3.length:Int) 1 v3 (fun e42 e43=>sCut z e42 e43 e0)) else none) else yify N z eq n (w64 (v2 + 1)) v3 e0 e1))))))) else e1 v3)
def sComp {α:Type} (N:Nat) (z:α) (eq:EqT α) (a1:List α) {R:Type} (k0:List α→Option R):Option R :=
 (bif (decide ((a1.length:Int) < 2)) then k0 a1 else (yify N z eq N 1 a1 (fun e44=>k0 e44) (fun e45=>k0 e45)))
theorem yiVy {α:Type} (eq:EqT α) (q:α→α→Bool) (S:α→Prop) (he:∀ x y,S x→S y→∀ (R:Type) (k:Bool→Option R),eq x y k = k (q x y)) (i len:Nat) (hlen:len < 4611686018427380000) :
  ∀ (rest:List α) (p:α) (n k j:Nat) (l out:List α),l.length = len→l.drop (j - 1) = p :: rest→i + 1≤j→k + 1≤j→l.take k = out→(∀ y ∈ p :: rest,S y)→rest.length < n →
  ∃ (k':Nat) (l':List α),l'.length = len∧k'≤len∧l'.take k' = out ++ yaCy q p rest∧∀ (R:Type) (e0:Int→List α→Option R),yejy eq n (k:Int) (i:Int) (len:Int) ((j - i:Nat):Int) l e0 = e0 (k':Int) l'
 | _,_,0,_,_,_,_,_,_,_,_,_,_,h=>by omega
 | [],p,n + 1,k,j,l,out,h1,h2,h3,h4,h5,h6,h7=>by
  have hd:=yaqy h2
  simp at hd
  refine ⟨k,l,h1,by omega,by simp [yaCy,h5],fun R e0=>?_⟩
  rw [yejy,decide_eq_false (by omega)]; rfl
 | y :: ys,p,n + 1,k,j,l,out,h1,h2,h3,h4,h5,h6,h7=>by
  have hd:=yaqy h2
  have hj:j - 1 + 1 = j:=by omega
  rw [hj] at hd
  have hd2:=yaqy hd.2.2.1
  have hy:S y:=h6 y (by simp)
  have hp:S p:=h6 p (by simp)
  have hlt:j < l.length:=hd2.2.1
  have d1:decide (((j - i:Nat):Int) < (((len:Int) - (i:Int)).toNat:Int)) = true:=decide_eq_true (by omega)
  have d2:(decide (0≤((j - i:Nat):Int)) && (decide (((j - i:Nat):Int) < (len:Int) - (i:Int)) && decide ((i:Int) + ((j - i:Nat):Int) < (l.length:Int)))) = true:=by simp; omega
  have e1:w64 (((j - i:Nat):Int) - 1) = ((j - i - 1:Nat):Int):=by rw [yayy (by omega) (by omega)]; omega
  have d3:(decide (0≤((j - i - 1:Nat):Int)) && (decide (((j - i - 1:Nat):Int) < (len:Int) - (i:Int)) && decide ((i:Int) + ((j - i - 1:Nat):Int) < (l.length:Int)))) = true:=by simp; omega
  have t1:(i:Int) + ((j - i:Nat):Int) = (j:Int):=by omega
  have t2:(i:Int) + ((j - i - 1:Nat):Int) = ((j - 1:Nat):Int):=by omega
  have e2:w64 (((j - i:Nat):Int) + 1) = ((j + 1 - i:Nat):Int):=by rw [yayy (by omega) (by omega)]; omega
  have e3:w64 ((k:Int) + 1) = ((k + 1:Nat):Int):=yauy (by omega)
  cases hq:q y p with
  | true =>
   obtain ⟨k',l',a1,a2,a3,a4⟩:=yiVy eq q S he i len hlen ys y n k (j + 1) l out h1 (by simpa using hd.2.2.1) (by omega) (by omega) h5 (fun z hz=>h6 z (List.mem_cons_of_mem _ hz)) (by simp at h7; omega)
   refine ⟨k',l',a1,a2,by rw [a3]; simp [yaCy,hq],fun R e0=>?_⟩
   rw [yejy,d1]
   simp only [cond_true,d2,e1,d3]
   rw [t1,yaOy hd2.1,t2,yaOy hd.1,he y p hy hp,hq]
   simp only [Bool.not_true,cond_false]
   rw [e2]
   exact a4 R e0
  | false =>
   have hk:k < l.length:=by omega
   have gk:l[k]? = some l[k]:=List.getElem?_eq_getElem hk
   obtain ⟨k',l',a1,a2,a3,a4⟩:=yiVy eq q S he i len hlen ys y n (k + 1) (j + 1) (l.set k y) (out ++ [y]) (by simpa using h1) (by
     show (l.set k y).drop j = y :: ys
     rw [List.drop_set_of_lt (by omega)]; exact hd.2.2.1) (by omega) (by omega) (by
     rw [List.take_add_one,List.getElem?_set_self hk,← h5]; simp [List.take_set_of_le (Nat.le_refl k)]) (fun z hz=>h6 z (List.mem_cons_of_mem _ hz)) (by simp at h7; omega)
   refine ⟨k',l',a1,a2,by rw [a3]; simp [yaCy,hq],fun R e0=>?_⟩
   rw [yejy,d1]
   simp only [cond_true,d2,e1,d3]
   rw [t1,yaOy hd2.1,t2,yaOy hd.1,he y p hy hp,hq]
   simp only [Bool.not_false,cond_true]
   rw [yaOy hd2.1,ybEy hk,yaOy gk,e2,e3,yhDy]
   exact a4 R e0
theorem yp2y {α:Type} (N:Nat) (z:α) (eq:EqT α) (q:α→α→Bool) (S:α→Prop) (he:∀ x y,S x→S y→∀ (R:Type) (k:Bool→Option R),eq x y k = k (q x y)) (l:List α) (hl:l.length < 4611686018427380000) (hN:l.length < N) (hS:∀ y ∈ l,S y) :
  ∀ (rest:List α) (p:α) (n i:Nat),l.drop (i - 1) = p :: rest→1≤i→rest.length < n→∀ (R:Type) (k:List α→Option R),yify N z eq n (i:Int) l k k = k (l.take i ++ yaCy q p rest)
 | _,_,0,_,_,_,h,_,_=>by omega
 | [],p,n + 1,i,h,hi,_,R,k=>by
  have hd:=yaqy h
  simp at hd
  rw [yify,decide_eq_false (by omega)]
  simp only [cond_false]
  congr 1
  rw [List.take_of_length_le (by omega)]; simp [yaCy]
 | y :: ys,p,n + 1,i,h,hi,hn,R,k=>by
  have hd:=yaqy h
  have hj:i - 1 + 1 = i:=by omega
  rw [hj] at hd
  have hd2:=yaqy hd.2.2.1
  have hy:S y:=hS y (ybPy hd.2.2.1)
  have hp:S p:=hS p (ybPy h)
  have hlt:i < l.length:=hd2.2.1
  rw [yify,decide_eq_true (by omega)]
  simp only [cond_true]
  rw [ybEy hlt,yaOy hd2.1,yf8y (by omega) (by omega),ybEy (by omega),yaOy hd.1,he y p hy hp]
  unfold yaCy
  cases hq:q y p with
  | true =>
   simp only [cond_true,if_true]
   rw [show (decide (0 < l.length) && (decide (0≤(i:Int)) && decide ((i:Int)≤(l.length:Int)))) = true by simp; omega]
   obtain ⟨k',l',a1,a2,a3,a4⟩:=yiVy eq q S he i l.length hl ys y N i (i + 1) l (l.take i) rfl (by simpa using hd.2.2.1) (by omega) (by omega) rfl (fun w hw=>hS w (by
     rcases List.mem_cons.1 hw with rfl | hw
     ·exact ybPy hd.2.2.1
     ·exact yEJy hd2.2.2.1 w hw)) (by omega)
   have e:((i + 1 - i:Nat):Int) = 1:=by omega
   rw [e] at a4
   simp only [cond_true,a4]
   rw [yF2y (by omega) (by omega),a3]
  | false =>
   simp only [cond_false,Bool.false_eq_true,if_false]
   rw [yauy (by omega),yp2y N z eq q S he l hl hN hS ys y n (i + 1) (by simpa using hd.2.2.1) (by omega) (by simp at hn; omega) R k]
   congr 1
   rw [List.take_add_one,hd2.1]; simp
theorem yFQy {α:Type} {N:Nat} {z:α} {eq:EqT α} (q:α→α→Bool) (S:α→Prop) (he:∀ x y,S x→S y→∀ (R:Type) (k:Bool→Option R),eq x y k = k (q x y)) (l:List α) (hl:N < 4611686018427380000) (hN:l.length < N) (hS:∀ y ∈ l,S y) {R:Type} (k:List α→Option R) :
  sComp N z eq l k = k (ybuy q l):=by
 unfold sComp
 match l,hN,hS with
 | [],_,_=>rfl
 | [x],_,_=>rfl
 | x :: y :: ys,hN,hS =>
  rw [decide_eq_false (by simp; omega)]
  have h:=yp2y N z eq q S he (x :: y :: ys) (by omega) hN hS (y :: ys) x N 1 rfl (by omega) (by simp at hN ⊢; omega) R k
  refine Eq.trans h ?_
  simp [ybuy]
def yrWy {α:Type}:Nat→List (List α)→Int→List (List α)→Int→Int→{R:Type}→(List (List α)→Int→Option R)→Option R
 | 0,_,_,_,_,_,_,_=>none
 | n + 1,v2,v3,v4,v5,v6,_,e0=>(bif (decide (v6 < v5)) then (get_ v4 v6 fun x8=>(bif (decide ((w64 (v3 + (x8.length:Int))) < 0)) then none else yrWy n v2 (w64 (v3 + (x8.length:Int))) v4 v5 (w64 (v6 + 1)) e0)) else e0 v2 v3)
def yo5y {α:Type} (by_:Nat):Nat→List (List α)→Int→Int→List α→{R:Type}→(List α→Option R)→Option R
 | 0,_,_,_,_,_,_=>none
 | n + 1,v12,v13,v14,v15,_,e0=>(bif (decide (v14 < v13)) then (get_ v12 v14 fun x17=>(bif (decide ((v15.length + x17.length) * by_≤yaiy)) then yo5y by_ n v12 v13 (w64 (v14 + 1)) (v15 ++ x17) e0 else none)) else e0 v15)
def sCat {α:Type} (N by_:Nat) (gr:Int→{R:Type}→(List α→Option R)→Option R) (a1:List (List α)) {R:Type} (k0:List α→Option R):Option R :=
 (yrWy N a1 0 a1 (a1.length:Int) 0 (fun e9 e10=>(gr e10 (fun r11=>(yo5y by_ N e9 (e9.length:Int) 0 r11 (fun e18=>k0 e18))))))
theorem yFDy {α:Type} {N by_:Nat} (a b:List α) (ha:a.length≤100000) (hb:b.length≤100000) (hby:by_≤10000) (hN:10≤N) {R:Type} (k:List α→Option R):sCat N by_ (ygIy by_) [a,b] k = k (a ++ b):=by
 obtain ⟨m,rfl⟩:∃ m,N = m + 4:=⟨N - 4,by omega⟩
 have p1:(a.length + b.length) * by_≤2000000000:=Nat.le_trans (Nat.mul_le_mul (show a.length + b.length≤200000 by omega) hby) (by omega)
 have p2:a.length * by_≤2000000000:=Nat.le_trans (Nat.mul_le_mul (show a.length≤200000 by omega) hby) (by omega)
 have e1:w64 (0 + (a.length:Int)) = (a.length:Int):=by rw [yayy (by omega) (by omega)]; omega
 have e2:w64 ((a.length:Int) + (b.length:Int)) = ((a.length + b.length:Nat):Int):=by rw [yayy (by omega) (by omega)]; omega
 have e3:w64 (0 + 1) = ((1:Nat):Int):=by rw [yayy (by omega) (by omega)]; rfl
 have e4:w64 (((1:Nat):Int) + 1) = ((2:Nat):Int):=by rw [yayy (by omega) (by omega)]; rfl
 have g0:∀ {R:Type} (k:List α→Option R),get_ [a,b] 0 k = k a:=fun k=>yesy (i:=0) rfl k
 have g1:∀ {R:Type} (k:List α→Option R),get_ [a,b] ((1:Nat):Int) k = k b:=fun k=>yesy (i:=1) rfl k
 unfold sCat
 simp only [yrWy,yo5y,g0,g1,e1,e2,e3,e4]
 have l2:(([a,b]:List (List α)).length:Int) = 2:=rfl
 have d0:decide ((a.length:Int) < 0) = false:=decide_eq_false (by omega)
 have d1:decide (((a.length + b.length:Nat):Int) < 0) = false:=decide_eq_false (by omega)
 have d2:decide ((0:Int) < 2) = true:=rfl
 have d3:decide (((1:Nat):Int) < 2) = true:=rfl
 have d4:decide (((2:Nat):Int) < 2) = false:=rfl
 rw [l2,d2,d3,d4,d0,d1]
 simp only [cond_true,cond_false,ygIy]
 rw [show (decide (0≤((a.length + b.length:Nat):Int)) && (decide (((a.length + b.length:Nat):Int).toNat * by_≤140737488355328) && decide (((a.length + b.length:Nat):Int)≤4611686018427387904))) = true by
  rw [Int.toNat_natCast]; simp; omega]
 simp only [cond_true,List.length_nil,List.nil_append,Nat.zero_add,l2]
 rw [decide_eq_true (show a.length * by_≤yaiy by unfold yaiy; omega),decide_eq_true (show (a.length + b.length) * by_≤yaiy by unfold yaiy; omega)]
 rfl
theorem room1 {α:Type} (l:List α) (x:α) (by_:Nat) (hl:l.length≤1000000) (hby:by_≤10000):decide ((l.length + [x].length) * by_≤yaiy) = true:=by
 have p1:(l.length + [x].length) * by_≤1000001 * 10000:=Nat.mul_le_mul (by simp; omega) hby
 exact decide_eq_true (by unfold yaiy; omega)
end Go.Am
set_option linter.unusedVariables false
set_option linter.unusedSimpArgs false
set_option maxRecDepth 100000
namespace Go.Am
open Go
def cmpI (a b:Int):Int:=bif decide (a < b) then -1 else bif decide (a > b) then 1 else 0
def orL:List Int→Int
 | []=>0
 | x :: xs=>bif x != 0 then x else orL xs
structure Ords {α:Type} (c:α→α→Int):Prop where
 anti:∀ x y,c y x = - c x y
 trans:∀ x y z,c x y≤0→c y z≤0→c x z≤0
theorem Ords.pre {α:Type} {c:α→α→Int} (h:Ords c) (S:α→Prop):Pre c S :=
 ⟨fun x y _ _=>by have:=h.anti x y; omega,fun x y z _ _ _=>h.trans x y z,fun x y _ _=>by have:=h.anti x y; omega⟩
theorem Ords.refl {α:Type} {c:α→α→Int} (h:Ords c) (x:α):c x x = 0:=by have:=h.anti x x; omega
theorem Ords.on {α β:Type} {c:α→α→Int} (h:Ords c) (f:β→α):Ords (fun x y=>c (f x) (f y)) :=
 ⟨fun x y=>h.anti _ _,fun x y z=>h.trans _ _ _⟩
theorem Ords.nil {α:Type}:Ords (fun (x y:α)=>orL []):=⟨fun _ _=>by simp [orL],fun _ _ _ _ _=>by simp [orL]⟩
theorem Ords.lex {α:Type} {c:α→α→Int} {l:α→α→List Int} (h:Ords c) (h2:Ords (fun x y=>orL (l x y))):Ords (fun x y=>orL (c x y :: l x y)):=by
 refine ⟨fun x y=>?_,fun x y z=>?_⟩
 ·have a1:=h.anti x y
  have a2:=h2.anti x y
  simp only [orL]
  by_cases e:c x y = 0
  ·have e2:c y x = 0:=by omega
   simp only [e,e2,bne_self_eq_false,cond_false]; exact a2
  ·have e2:c y x ≠ 0:=by omega
   have f1:(c x y != 0) = true:=by simpa using e
   have f2:(c y x != 0) = true:=by simpa using e2
   simp only [f1,f2,cond_true]; exact a1
 ·have a1:=h.anti x y
  have a2:=h.anti y z
  have a3:=h.anti x z
  have t1:=h.trans x y z
  have t2:=h.trans z x y
  have t3:=h.trans y z x
  have s:=h2.trans x y z
  have q:∀ a b:Int,(bif a != 0 then a else b) = if a = 0 then b else a:=fun a b=>by
   by_cases e:a = 0
   ·simp [e]
   ·have:(a != 0) = true:=by simpa using e
    rw [this,if_neg e]; rfl
  simp only [orL,q]
  intro h3 h4
  split at h3 <;> split at h4 <;> split <;> omega
theorem ys1y:Ords cmpI:=by
 have v:∀ a b:Int,(a < b∧cmpI a b = -1) ∨ (a = b∧cmpI a b = 0) ∨ (b < a∧cmpI a b = 1):=fun a b=>by
  unfold cmpI
  by_cases h1:a < b
  ·exact .inl ⟨h1,by simp [h1]⟩
  ·by_cases h2:a > b
   ·exact .inr (.inr ⟨h2,by simp [h1,h2]⟩)
   ·exact .inr (.inl ⟨by omega,by simp [h1,h2]⟩)
 refine ⟨fun x y=>?_,fun x y z=>?_⟩
 ·rcases v x y with ⟨h1,h2⟩ | ⟨h1,h2⟩ | ⟨h1,h2⟩ <;> rcases v y x with ⟨h3,h4⟩ | ⟨h3,h4⟩ | ⟨h3,h4⟩ <;> omega
 ·rcases v x y with ⟨h1,h2⟩ | ⟨h1,h2⟩ | ⟨h1,h2⟩ <;> rcases v y z with ⟨h3,h4⟩ | ⟨h3,h4⟩ | ⟨h3,h4⟩ <;> rcases v x z with ⟨h5,h6⟩ | ⟨h5,h6⟩ | ⟨h5,h6⟩ <;> omega
theorem yCZy {a b:Int}:cmpI a b = 0 ↔ a = b:=by
 unfold cmpI
 by_cases h1:a < b
 ·simp [h1]; omega
 ·by_cases h2:a > b
  ·simp [h1,h2]; omega
  ·simp [h1,h2]; omega
theorem yFuy (a b:List UInt8):Lib.compareBytes a b = -1 ∨ Lib.compareBytes a b = 0 ∨ Lib.compareBytes a b = 1:=by
 induction a generalizing b with
 | nil=>cases b <;> simp [Lib.compareBytes]
 | cons x xs ih =>
  cases b with
  | nil=>simp [Lib.compareBytes]
  | cons y ys =>
   unfold Lib.compareBytes
   split
   ·exact .inl rfl
   ·split
    ·exact .inr (.inr rfl)
    ·exact ih ys
theorem yrIy:∀ l:List UInt8,Lib.compareBytes l l = 0
 | []=>rfl
 | x :: xs=>by unfold Lib.compareBytes; simp [yrIy xs]
theorem u8 {x y:UInt8} (h1:¬ x < y) (h2:¬ y < x):x = y:=by
 have e1:¬ x.toNat < y.toNat:=by simpa [UInt8.lt_iff_toNat_lt] using h1
 have e2:¬ y.toNat < x.toNat:=by simpa [UInt8.lt_iff_toNat_lt] using h2
 exact UInt8.toNat_inj.1 (by omega)
theorem ylBy:∀ a b:List UInt8,Op.bytesLess a b = decide (Lib.compareBytes a b < 0)
 | [],[]=>by simp [Op.bytesLess,Lib.compareBytes]
 | _ :: _,[]=>by simp [Op.bytesLess,Lib.compareBytes]
 | [],_ :: _=>by simp [Op.bytesLess,Lib.compareBytes]
 | x :: xs,y :: ys=>by
  unfold Op.bytesLess Lib.compareBytes
  by_cases h1:x < y
  ·simp [h1]
  ·by_cases h2:y < x
   ·have h3:¬ x = y:=fun e=>by subst e; exact h1 h2
    simp [h1,h2,h3]
   ·have h3:=u8 h1 h2
    subst h3
    simp [h1,ylBy xs ys]
theorem ysly:∀ a b:List UInt8,Lib.compareBytes a b = 0→a = b
 | [],[],_=>rfl
 | [],_ :: _,h=>by simp [Lib.compareBytes] at h
 | _ :: _,[],h=>by simp [Lib.compareBytes] at h
 | x :: xs,y :: ys,h=>by
  unfold Lib.compareBytes at h
  split at h
  ·cases h
  ·split at h
   ·cases h
   ·rename_i h1 h2
    rw [u8 h1 h2,ysly xs ys h]
theorem yzmy:∀ a b:List UInt8,Lib.compareBytes b a = - Lib.compareBytes a b
 | [],[]=>rfl
 | [],_ :: _=>by simp [Lib.compareBytes]
 | _ :: _,[]=>by simp [Lib.compareBytes]
 | x :: xs,y :: ys=>by
  unfold Lib.compareBytes
  by_cases h1:x < y
  ·have h2:¬ y < x:=by
    intro h
    have a:=UInt8.lt_iff_toNat_lt.1 h1
    have b:=UInt8.lt_iff_toNat_lt.1 h
    omega
   simp [h1,h2]
  ·by_cases h2:y < x
   ·simp [h1,h2]
   ·simp only [h1,h2,if_false]
    exact yzmy xs ys
theorem yxmy:∀ a b c:List UInt8,Lib.compareBytes a b≤0→Lib.compareBytes b c≤0→Lib.compareBytes a c≤0
 | [],_,[],_,_=>by simp [Lib.compareBytes]
 | [],_,_ :: _,_,_=>by simp [Lib.compareBytes]
 | x :: xs,[],_,h,_=>by simp [Lib.compareBytes] at h
 | x :: xs,y :: ys,[],_,h=>by simp [Lib.compareBytes] at h
 | x :: xs,y :: ys,z :: zs,h1,h2=>by
  unfold Lib.compareBytes at h1 h2 ⊢
  have ll:=@UInt8.lt_iff_toNat_lt
  by_cases a1:x < y
  ·by_cases b1:y < z
   ·have:x < z:=by rw [ll] at *; omega
    simp [this]
   ·by_cases b2:z < y
    ·simp [b1,b2] at h2
    ·have:x < z:=by rw [ll] at *; omega
     simp [this]
  ·by_cases a2:y < x
   ·simp [a1,a2] at h1
   ·simp only [a1,a2,if_false] at h1
    by_cases b1:y < z
    ·have:x < z:=by rw [ll] at *; omega
     simp [this]
    ·by_cases b2:z < y
     ·simp [b1,b2] at h2
     ·simp only [b1,b2,if_false] at h2
      have c1:¬ x < z:=by rw [ll] at *; omega
      have c2:¬ z < x:=by rw [ll] at *; omega
      simp only [c1,c2,if_false]
      exact yxmy xs ys zs h1 h2
theorem yzly:Ords Lib.compareBytes:=⟨fun x y=>yzmy x y,yxmy⟩
theorem yz4y {a b:List UInt8}:Lib.compareBytes a b = 0 ↔ a = b:=⟨ysly a b,fun h=>by rw [h]; exact yrIy b⟩
theorem yEQy {l:List Int}:orL l = 0 ↔ ∀ x ∈ l,x = 0:=by
 induction l with
 | nil=>simp [orL]
 | cons x xs ih =>
  unfold orL
  by_cases h:x = 0
  ·simp [h,ih]
  ·have:(x != 0) = true:=by simpa using h
   rw [this]; simp [h]
variable {A:Nat→Type}
theorem yoCy {S:Spec A} (h:yaAy S) {args:List (IV A)} {ys0:List (IV A)} {F:{R:Type}→(Bool→Option R)→Option R} (hF:∀ (R:Type) (k:IV A→List (IV A)→Option R),S args k = F (fun b=>k (.d (.bool b)) ys0)) {b:Bool} (hb:F some = some b) (R:Type) (k:Bool→Option R):F k = k b:=by
 let f:(R:Type)→(Bool→Option R)→IV A→List (IV A)→Option R:=fun R k r _=>match r with | .d (.bool b)=>k b | _=>none
 have h1:=(hF R (f R k)).symm.trans (h args R (f R k))
 have h2:=(hF Bool (f Bool some)).symm.trans (h args Bool (f Bool some))
 have h3:F (fun b=>f R k (.d (.bool b)) ys0) = F k:=rfl
 have h4:F (fun b=>f Bool some (.d (.bool b)) ys0) = F some:=rfl
 rw [h3] at h1
 rw [h4,hb] at h2
 rw [h1]
 cases ht:S args (fun r ys=>some (r,ys)) with
 | none=>rw [ht] at h2; cases h2
 | some p =>
  obtain ⟨v,ys⟩:=p
  rw [ht] at h2
  simp only [Option.bind_some] at h2 ⊢
  unfold f at h2 ⊢
  split at h2
  ·cases h2; rfl
  ·cases h2
end Go.Am
set_option linter.unusedVariables false
set_option linter.unusedSimpArgs false
set_option maxRecDepth 100000
namespace Go.Am
open Go
theorem yAay {α:Type} {c:α→α→Int} (h:Ords c) {xs ys:List α} (hz:∀ x ∈ ys,∀ y ∈ ys,c x y = 0→x = y) (hp:xs.Perm ys) (h1:xs.Pairwise fun a b=>c a b≤0) (h2:ys.Pairwise fun a b=>c a b≤0):xs = ys :=
 List.Perm.eq_of_pairwise (le:=fun a b=>c a b≤0) (fun a b ha hb h3 h4=>hz a (hp.mem_iff.1 ha) b hb (by have:=h.anti a b; omega)) h1 h2 hp
theorem yx2y {α:Type} {call:CmpT α} {xs:List α} {c:α→α→Int} (h:Ords c) (hl:xs.length≤1000000) (hz:∀ x ∈ xs,∀ y ∈ xs,c x y = 0→x = y) (hc:∀ x ∈ xs,∀ y ∈ xs,∀ (R:Type) (k:Int→Option R),call x y k = k (c x y)) {R:Type} (k:List α→Option R):yboy call xs k = k (sortI c xs):=by
 obtain ⟨ys,g1,g2,g3⟩:=yhoy (by omega) hc (h.pre (· ∈ xs))
 have hs:=ylGy (h.pre (fun _=>True)) xs (fun _ _=>trivial)
 have hpm:=ykAy c xs
 rw [g3,yAay h (fun x hx y hy=>hz x (hpm.mem_iff.1 hx) y (hpm.mem_iff.1 hy)) (g1.trans hpm.symm) g2 hs]
end Go.Am
set_option linter.unusedVariables false
set_option linter.unusedSectionVars false
set_option linter.unusedSimpArgs false
namespace Go.Am
open Go
theorem ylry {α:Type} {c:α→α→Int} (h:Ords c) (hz:∀ x y,c x y = 0→x = y) {x y z:α} (h1:c x y < 0) (h2:c y z < 0):c x z < 0:=by
 have h3:=h.trans x y z (by omega) (by omega)
 rcases Int.lt_or_eq_of_le h3 with h4 | h4
 ·exact h4
 ·have:=hz x z h4
  subst this
  have:=h.anti x y
  omega
theorem yl6y {α:Type} {c:α→α→Int} (h:Ords c) (hz:∀ x y,c x y = 0→x = y) {eq:α→α→Bool} (he:∀ x y,eq x y = true ↔ x = y):∀ (l:List α) (p:α),(p :: l).Pairwise (fun a b=>c a b≤0) →
  (yaCy eq p l).Pairwise (fun a b=>c a b < 0)∧(∀ x ∈ yaCy eq p l,c p x < 0)∧∀ x ∈ l,x = p ∨ x ∈ yaCy eq p l
 | [],p,_=>⟨.nil,(fun x h=>by cases h),(fun x h=>by cases h)⟩
 | y :: ys,p,hs=>by
  have h1:=List.pairwise_cons.1 hs
  have hpy:=h1.1 y (by simp)
  unfold yaCy
  obtain ⟨g1,g2,g3⟩:=yl6y h hz he ys y h1.2
  by_cases hy:eq y p = true
  ·rw [hy]
   have:=(he y p).1 hy
   subst this
   simp only [if_true]
   refine ⟨g1,g2,fun x hx=>?_⟩
   rcases List.mem_cons.1 hx with rfl | hx
   ·exact .inl rfl
   ·exact g3 x hx
  ·have hn:c p y < 0:=by
    rcases Int.lt_or_eq_of_le hpy with h4 | h4
    ·exact h4
    ·exact absurd ((he y p).2 (hz p y h4).symm) hy
   simp only [hy,if_false]
   refine ⟨List.pairwise_cons.2 ⟨g2,g1⟩,fun x hx=>?_,fun x hx=>?_⟩
   ·rcases List.mem_cons.1 hx with rfl | hx
    ·exact hn
    ·exact ylry h hz hn (g2 x hx)
   ·rcases List.mem_cons.1 hx with rfl | hx
    ·exact .inr (by simp)
    ·rcases g3 x hx with rfl | hx
     ·exact .inr (by simp)
     ·exact .inr (by simp [hx])
theorem ysjy {α:Type} {c:α→α→Int} (h:Ords c) (hz:∀ x y,c x y = 0→x = y) {eq:α→α→Bool} (he:∀ x y,eq x y = true ↔ x = y) {l:List α} (hs:l.Pairwise fun a b=>c a b≤0) :
  (ybuy eq l).Pairwise (fun a b=>c a b < 0)∧∀ x,x ∈ ybuy eq l ↔ x ∈ l:=by
 cases l with
 | nil=>exact ⟨.nil,fun x=>Iff.rfl⟩
 | cons p l =>
  obtain ⟨g1,g2,g3⟩:=yl6y h hz he l p hs
  refine ⟨List.pairwise_cons.2 ⟨g2,g1⟩,fun x=>⟨fun hx=>yhQy hx,fun hx=>?_⟩⟩
  rcases List.mem_cons.1 hx with rfl | hx
  ·exact List.mem_cons_self
  ·rcases g3 x hx with rfl | hx
   ·exact List.mem_cons_self
   ·exact List.mem_cons_of_mem _ hx
theorem yrey {α:Type} {c:α→α→Int} (h:Ords c):∀ {xs ys:List α},xs.Pairwise (fun a b=>c a b < 0)→ys.Pairwise (fun a b=>c a b < 0)→(∀ x,x ∈ xs ↔ x ∈ ys)→xs = ys
 | [],[],_,_,_=>rfl
 | [],y :: ys,_,_,hm=>by have:=(hm y).2 (by simp); cases this
 | x :: xs,[],_,_,hm=>by have:=(hm x).1 (by simp); cases this
 | x :: xs,y :: ys,h1,h2,hm=>by
  have p1:=List.pairwise_cons.1 h1
  have p2:=List.pairwise_cons.1 h2
  have self:∀ z,¬ c z z < 0:=fun z=>by have:=h.refl z; omega
  have e:x = y:=by
   rcases List.mem_cons.1 ((hm x).1 (by simp)) with hx | hx
   ·exact hx
   ·rcases List.mem_cons.1 ((hm y).2 (by simp)) with hy | hy
    ·exact hy.symm
    ·have a:=p2.1 x hx
     have b:=p1.1 y hy
     have:=h.anti x y
     omega
  subst e
  rw [yrey h p1.2 p2.2 fun z=>?_]
  constructor
  ·intro hz
   rcases List.mem_cons.1 ((hm z).1 (by simp [hz])) with rfl | hz2
   ·exact absurd (p1.1 z hz) (self z)
   ·exact hz2
  ·intro hz
   rcases List.mem_cons.1 ((hm z).2 (by simp [hz])) with rfl | hz2
   ·exact absurd (p2.1 z hz) (self z)
   ·exact hz2
end Go.Am
set_option linter.unusedVariables false
set_option linter.unusedSimpArgs false
namespace Go.Am
open Go
end Go.Am
set_option linter.unusedVariables false
set_option linter.unusedSimpArgs false
namespace Go.Am
open Go
abbrev CmpS (α σ:Type):Type 1:=α→α→σ→{R:Type}→(Int→σ→Option R)→Option R
section
variable {α σ:Type} {cmp:CmpS α σ} {c:α→α→Int} {S:α→Prop} {s:σ}
end
abbrev CmpU (α σ τ υ:Type):Type 1:=α→α→σ→τ→υ→{R:Type}→(Int→σ→τ→υ→Option R)→Option R
section
variable {α σ τ υ:Type} {cmp:CmpU α σ τ υ} {c:α→α→Int} {S:α→Prop} {s:σ} {t:τ} {u:υ}
end
end Go.Am
