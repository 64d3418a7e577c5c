/- The plain law, in Lean alone: B1, B2, B3. No condition: lemmas for the claim. -/
import Derived.Test.YtkcbebmbmffkjaaGreatDoorAmPrint
set_option linter.unusedVariables false
set_option linter.unusedSimpArgs false
set_option maxRecDepth 100000
namespace Go.Am
open Go
theorem yaky {x:Int} (h1:-9223372036854775808≤x) (h2:x≤9223372036854775807):w64 x = x:=by
 unfold w64 IntKind.wrap
 simp [IntKind.bits,IntKind.signed]
 omega
theorem yamy {i:Nat} (h:i < 4611686018427387904):w64 ((i:Int) + 1) = ((i + 1:Nat):Int):=by
 rw [yaky (by omega) (by omega)]; omega
theorem yyAy {i:Nat} (h:i < 4611686018427387904) (h0:0 < i):w64 ((i:Int) - 1) = ((i - 1:Nat):Int):=by
 rw [yaky (by omega) (by omega)]; omega
theorem yaOy {α:Type} {l:List α} {i:Nat} {x:α} (h:l[i]? = some x) {R:Type} (k:α→Option R):at_ l (i:Int) k = k x:=by
 unfold at_; rw [Int.toNat_natCast,h]
theorem yxFy {α:Type} {l:List α} {i:Int} {x:α} (h:l[i.toNat]? = some x) {R:Type} (k:α→Option R):at_ l i k = k x:=by
 unfold at_; rw [h]
theorem yh6y {α:Type} {l:List α} {i:Nat} {x:α} (h:l[i]? = some x) {R:Type} (k:α→Option R):get_ l (i:Int) k = k x:=by
 unfold get_; rw [yaOy h]; simp
theorem ya6y {α:Type} {l:List α} {i:Nat} (h:i < l.length) {R:Type} (k:Option R):inr l (i:Int) k = k:=by
 unfold inr; rw [decide_eq_true (show 0≤(i:Int) by omega),decide_eq_true (show (i:Int) < (l.length:Int) by omega)]; rfl
theorem ydjy {α:Type} {l:List α} {i:Nat} {x:α}:set_ l (i:Int) x = l.set i x:=by unfold set_; rw [Int.toNat_natCast]
theorem yqLy {α:Type} {l:List α} {i:Int} {x:α}:(set_ l i x).length = l.length:=by unfold set_; simp
theorem yaly {α:Type} {l:List α} {i:Nat} {x:α} {xs:List α} (h:l.drop i = x :: xs):l[i]? = some x∧i < l.length∧l.drop (i + 1) = xs∧l.length = i + 1 + xs.length:=by
 have h1:l[i]? = some x:=by
  have:=congrArg (fun t=>t[0]?) h
  simpa [List.getElem?_drop] using this
 have h2:i < l.length:=by
  rcases Nat.lt_or_ge i l.length with h2 | h2
  ·exact h2
  ·rw [List.getElem?_eq_none h2] at h1; cases h1
 have h3:=congrArg List.length h
 simp at h3
 refine ⟨h1,h2,?_,by omega⟩
 rw [← List.drop_drop,h]; rfl
theorem yzky {α:Type} {l:List α} {i:Nat} (h:l.drop i = []):l.length≤i:=by
 have:=congrArg List.length h
 simp at this; omega
theorem yayy {α:Type} {l:List α} {i:Nat} {x:α} {xs:List α} (h:l.drop i = x :: xs):decide ((i:Int) < (l.length:Int)) = true:=by
 have:=(yaly h).2.1; exact decide_eq_true (by omega)
theorem yaCy {α:Type} {l:List α} {i:Nat} (h:l.drop i = []):decide ((i:Int) < (l.length:Int)) = false:=by
 have:=yzky h; exact decide_eq_false (by omega)
theorem yaHy {α:Type} {l:List α} {i:Nat} {x:α} {xs:List α} (h:l.drop i = x :: xs) {R:Type} (k:α→Option R):get_ l (i:Int) k = k x:=yh6y (yaly h).1 k
theorem ydfy {α:Type} {l:List α} {i:Nat} {x:α} {xs:List α} (h:l.drop i = x :: xs) {R:Type} (k:α→Option R):at_ l (i:Int) k = k x:=yaOy (yaly h).1 k
theorem ycuy {α:Type} {l:List α} {i:Nat} {x:α} {xs:List α} (h:l.drop i = x :: xs) {R:Type} (k:Option R):inr l (i:Int) k = k:=ya6y (yaly h).2.1 k
theorem ycUy {α:Type} {l:List α} {i:Nat} {p:α} {xs:List α} (h:l.drop (i - 1) = p :: xs) (h0:0 < i) (hl:l.length < 4611686018427387904) {R:Type} (k:α→Option R):get_ l (w64 ((i:Int) - 1)) k = k p:=by
 have:=(yaly h).2.1
 rw [yyAy (by omega) h0]; exact yaHy h k
theorem yaWy {α:Type} {l:List α} {i:Nat} {x:α} {xs:List α} (h:l.drop i = x :: xs):x ∈ l:=List.mem_of_getElem? (yaly h).1
theorem yG6y {α:Type} {l:List α} {i:Nat} {xs:List α} (h:l.drop i = xs):∀ x ∈ xs,x ∈ l:=by
 subst h; exact fun x hx=>List.mem_of_mem_drop hx
theorem ygjy {α:Type} {l:List α} {i:Nat} {x y:α} (h:x ∈ l.set i y):x ∈ l ∨ x = y:=List.mem_or_eq_of_mem_set h
end Go.Am
set_option linter.unusedVariables false
set_option linter.unusedSimpArgs false
set_option maxRecDepth 100000
namespace Go.Am
open Go
def yhfy {α:Type} (ne:α→α→Bool):Nat→List α→List α→Int→Int→{R:Type}→(Bool→Option R)→Option R→Option R
 | 0,_,_,_,_,_,_,_=>none
 | n + 1,v3,v4,v5,v6,_,e0,e1=>(bif (decide (v6 < v5)) then (get_ v3 v6 fun x9=>(get_ v4 v6 fun x10=>(bif (ne x9 x10) then e0 false else yhfy ne n v3 v4 v5 (w64 (v6 + 1)) e0 e1))) else e1)
def ykqy {α:Type} (N:Nat) (ne:α→α→Bool) (a b:List α) {R:Type} (k0:Bool→Option R):Option R :=
 (bif ((a.length:Int) != (b.length:Int)) then k0 false else (yhfy ne N a b (a.length:Int) 0 (fun e11=>k0 e11) (k0 true)))
theorem yqzy {α:Type} (ne:α→α→Bool) (l:List α) (hl:l.length < 4611686018427387904) (hne:∀ x,ne x x = false):∀ (xs:List α) (n i:Nat),l.drop i = xs→xs.length < n→∀ (R:Type) (e0:Bool→Option R) (e1:Option R),yhfy ne n l l (l.length:Int) (i:Int) e0 e1 = e1
 | _,0,_,_,h,_,_,_=>by omega
 | [],n + 1,i,h,_,_,_,_=>by rw [yhfy,yaCy h]; rfl
 | x :: xs,n + 1,i,h,hn,R,e0,e1=>by
  have h':=yaly h
  rw [yhfy,yayy h]
  simp only [cond_true,yaHy h,hne,cond_false]
  rw [yamy (by omega)]
  exact yqzy ne l hl hne xs n (i + 1) h'.2.2.1 (by simp at hn; omega) R e0 e1
theorem yqwy {α:Type} {N:Nat} {ne:α→α→Bool} {l:List α} (hN:l.length < N) (hN2:N≤4611686018427387904) (hne:∀ x,ne x x = false) {R:Type} (k:Bool→Option R):ykqy N ne l l k = k true:=by
 unfold ykqy
 have h:=yqzy ne l (by omega) hne l N 0 rfl hN R (fun e11=>k e11) (k true)
 simp only [bne_self_eq_false,cond_false]
 exact h
def yEny {α:Type}:Nat→List α→Int→Int→{R:Type}→Option R→Option R
 | 0,_,_,_,_,_=>none
 | n + 1,v2,v3,v4,_,e0=>(bif (decide (v4 < v3)) then (get_ v2 v4 fun x6=>none) else e0)
def yj1y {α:Type} (N:Nat) (a1:List α) {R:Type} (k0:Bool→Option R):Option R :=
 (bif ((a1.length:Int) != 0) then k0 false else (yEny N a1 (a1.length:Int) 0 (k0 true)))
theorem yqDy {α:Type} {N:Nat} (hN:0 < N) {R:Type} (k:Bool→Option R):yj1y (α:=α) N [] k = k true:=by
 obtain ⟨m,rfl⟩:∃ m,N = m + 1:=⟨N - 1,by omega⟩
 rfl
def idxI {α:Type} (p:α→Bool) (l:List α):Int:=match l.findIdx? p with | some i=>(i:Int) | none=>-1
theorem yo3y {α:Type} (p:α→Bool) (l:List α):decide (idxI p l ≥ 0) = l.any p:=by
 unfold idxI
 cases h:l.findIdx? p with
 | some i =>
  have:=List.findIdx?_isSome (xs:=l) (p:=p)
  rw [h] at this
  show decide ((i:Int) ≥ 0) = _
  rw [decide_eq_true (by omega)]
  simpa using this
 | none =>
  have:=List.findIdx?_isSome (xs:=l) (p:=p)
  rw [h] at this
  simp at this ⊢
  intro x hx
  exact this x hx
def yf6y {α β:Type} (eq:β→α→Bool):Nat→List α→β→Int→Int→{R:Type}→(Int→Option R)→Option R→Option R
 | 0,_,_,_,_,_,_,_=>none
 | n + 1,v3,v6,v4,v5,_,e0,e1=>(bif (decide (v5 < v4)) then (get_ v3 v5 fun x8=>(bif (eq v6 x8) then e0 v5 else yf6y eq n v3 v6 v4 (w64 (v5 + 1)) e0 e1)) else e1)
theorem ynRy {α β:Type} (eq:β→α→Bool) (v:β) (l:List α) (hl:l.length < 4611686018427387904):∀ (xs:List α) (n i:Nat),l.drop i = xs→xs.length < n→∀ (R:Type) (e0:Int→Option R) (e1:Option R),
  yf6y eq n l v (l.length:Int) (i:Int) e0 e1 = match xs.findIdx? (eq v) with | some j=>e0 ((i + j:Nat):Int) | none=>e1
 | _,0,_,_,h,_,_,_=>by omega
 | [],n + 1,i,h,_,_,_,_=>by rw [yf6y,yaCy h]; rfl
 | x :: xs,n + 1,i,h,hn,R,e0,e1=>by
  have h':=yaly h
  rw [yf6y,yayy h]
  simp only [cond_true,yaHy h,List.findIdx?_cons]
  cases hq:eq v x with
  | true=>simp
  | false =>
   simp only [cond_false]
   rw [yamy (by omega),ynRy eq v l hl xs n (i + 1) h'.2.2.1 (by simp at hn; omega) R e0 e1]
   cases xs.findIdx? (eq v) with
   | none=>rfl
   | some j=>simp; congr 1; omega
def yoJy {α β:Type} (N:Nat) (eq:β→α→Bool) (a1:List α) (a2:β) {R:Type} (k0:Int→Option R):Option R:=(yf6y eq N a1 a2 (a1.length:Int) 0 (fun e9=>k0 e9) (k0 (-1)))
theorem yEGy {α β:Type} {N:Nat} (eq:β→α→Bool) (v:β) (l:List α) (hN:l.length < N) (hN2:N≤4611686018427387904) {R:Type} (k:Int→Option R) :
  yoJy N eq l v k = k (idxI (eq v) l):=by
 unfold yoJy
 have h:=ynRy eq v l (by omega) l N 0 rfl hN R (fun e9=>k e9) (k (-1))
 refine h.trans ?_
 unfold idxI
 cases l.findIdx? (eq v) with
 | none=>rfl
 | some j=>simp
def yeSy {α σ:Type} (f:α→σ→{R:Type}→(Bool→σ→Option R)→Option R):Nat→List α→Int→Int→σ→{R:Type}→(Int→σ→Option R)→(σ→Option R)→Option R
 | 0,_,_,_,_,_,_,_=>none
 | n + 1,v3,v4,v5,v6,_,e0,e1=>(bif (decide (v5 < v4)) then (get_ v3 v5 fun x10=>(f x10 v6 (fun r11 r12=>(bif r11 then e0 v5 r12 else yeSy f n v3 v4 (w64 (v5 + 1)) r12 e0 e1)))) else e1 v6)
theorem ynCy {α σ:Type} (f:α→σ→{R:Type}→(Bool→σ→Option R)→Option R) (p:α→Bool) (s:σ) (l:List α) (hf:∀ x ∈ l,∀ (R:Type) (k:Bool→σ→Option R),f x s k = k (p x) s) (hl:l.length < 4611686018427387904) :
  ∀ (xs:List α) (n i:Nat),l.drop i = xs→xs.length < n→∀ (R:Type) (e0:Int→σ→Option R) (e1:σ→Option R),
  yeSy f n l (l.length:Int) (i:Int) s e0 e1 = match xs.findIdx? p with | some j=>e0 ((i + j:Nat):Int) s | none=>e1 s
 | _,0,_,_,h,_,_,_=>by omega
 | [],n + 1,i,h,_,_,_,_=>by rw [yeSy,yaCy h]; rfl
 | x :: xs,n + 1,i,h,hn,R,e0,e1=>by
  have h':=yaly h
  rw [yeSy,yayy h]
  simp only [cond_true,yaHy h,List.findIdx?_cons,hf x (yaWy h)]
  cases hq:p x with
  | true=>simp
  | false =>
   simp only [cond_false]
   rw [yamy (by omega),ynCy f p s l hf hl xs n (i + 1) h'.2.2.1 (by simp at hn; omega) R e0 e1]
   cases xs.findIdx? p with
   | none=>rfl
   | some j=>simp; congr 1; omega
def ydiy {α σ:Type} (N:Nat) (f:α→σ→{R:Type}→(Bool→σ→Option R)→Option R) (a1:List α) (a2:σ) {R:Type} (k0:Int→σ→Option R):Option R:=(yeSy f N a1 (a1.length:Int) 0 a2 (fun e9 e10=>k0 e9 e10) (fun e=>k0 (-1) e))
theorem yhKy {α σ:Type} {N:Nat} (f:α→σ→{R:Type}→(Bool→σ→Option R)→Option R) (p:α→Bool) (s:σ) (l:List α) (hf:∀ x ∈ l,∀ (R:Type) (k:Bool→σ→Option R),f x s k = k (p x) s) (hN:l.length < N) (hN2:N≤4611686018427387904) {R:Type} (k:Int→σ→Option R) :
  ydiy N f l s k = k (idxI p l) s:=by
 unfold ydiy
 have h:=ynCy f p s l hf (by omega) l N 0 rfl hN R (fun e9 e10=>k e9 e10) (fun e=>k (-1) e)
 refine h.trans ?_
 unfold idxI
 cases l.findIdx? p with
 | none=>rfl
 | some j=>simp
def ydOy {α:Type} (cmp:CmpT α):Nat→Int→Int→Int→Int→List α→{R:Type}→(Int→Int→Int→List α→Option R)→Option R
 | 0,_,_,_,_,_,_,_=>none
 | n + 1,v31,v32,v33,v34,v35,_,e0=>(bif (decide (v34 > v31)) then (inr v35 v34 (at_ v35 v34 fun x43=>(inr v35 (w64 (v34 - 1)) (at_ v35 (w64 (v34 - 1)) fun x44=>(cmp x43 x44 (fun r45=>(bif (decide (r45 < 0)) then (inr v35 (w64 (v34 - 1)) (at_ v35 (w64 (v34 - 1)) fun x46=>(inr v35 v34 (at_ v35 v34 fun x47=>(inr v35 v34 (at_ v35 v34 fun x48=>(inr (set_ v35 v34 x46) (w64 (v34 - 1)) (at_ (set_ v35 v34 x46) (w64 (v34 - 1)) fun x49=>ydOy cmp n v31 v32 v33 (w64 (v34 - 1)) (set_ (set_ v35 v34 x46) (w64 (v34 - 1)) x47) e0)))))))) else e0 v31 v32 v33 v35))))))) else e0 v31 v32 v33 v35)
def ycCy {α:Type} (N:Nat) (cmp:CmpT α):Nat→Int→Int→Int→List α→{R:Type}→(List α→Option R)→Option R
 | 0,_,_,_,_,_,_=>none
 | n + 1,v4,v5,v6,v7,_,e0=>(bif (decide (v6 < v5)) then (ydOy cmp N v4 v5 v6 v6 v7 (fun e50 e51 e52 e53=>ycCy N cmp n e50 e51 (w64 (e52 + 1)) e53 e0)) else e0 v7)
def sIns {α:Type} (N:Nat) (cmp:CmpT α) (a1:List α) (a2 a3:Int) {R:Type} (k0:List α→Option R):Option R :=
 (ycCy N cmp N a2 a3 (w64 (a2 + 1)) a1 (fun e54=>k0 e54))
def ybgy {α:Type} (c:α→α→Int) (x:α):List α→List α
 | []=>[x]
 | y :: ys=>if c x y < 0 then y :: ybgy c x ys else x :: y :: ys
def ybhy {α:Type} (c:α→α→Int):List α→List α→List α
 | acc,[]=>acc
 | acc,x :: xs=>ybhy c (ybgy c x acc) xs
def sortI {α:Type} (c:α→α→Int) (l:List α):List α:=(ybhy c [] l).reverse
theorem ybFy {α:Type} (c:α→α→Int) (x:α):∀ l:List α,(ybgy c x l).Perm (x :: l)
 | []=>.refl _
 | y :: ys=>by
  unfold ybgy
  split
  ·exact ((ybFy c x ys).cons y).trans (List.Perm.swap x y ys)
  ·exact .refl _
theorem ynyy {α:Type} (c:α→α→Int):∀ (l acc:List α),(ybhy c acc l).Perm (acc ++ l)
 | [],acc=>by simp [ybhy]
 | x :: xs,acc=>by
  unfold ybhy
  refine (ynyy c xs _).trans ?_
  refine ((ybFy c x acc).append_right xs).trans ?_
  exact (List.perm_middle (l₁:=acc) (l₂:=xs) (a:=x)).symm
theorem ysOy {α:Type} (c:α→α→Int) (l:List α):(sortI c l).Perm l:=by
 unfold sortI
 exact (List.reverse_perm _).trans (by simpa using ynyy c l [])
theorem ybzy {α:Type} (c:α→α→Int) (l:List α):(sortI c l).length = l.length:=(ysOy c l).length_eq
theorem ycny {α:Type} {c:α→α→Int} {l:List α} {x:α}:x ∈ sortI c l ↔ x ∈ l:=(ysOy c l).mem_iff
theorem ymJy {α:Type} {c:α→α→Int} {S:α→Prop} (hp:Pre c S) (x:α) (hx:S x):∀ l:List α,(∀ y ∈ l,S y)→l.Pairwise (fun a b=>c b a≤0)→(ybgy c x l).Pairwise (fun a b=>c b a≤0)
 | [],_,_=>by simp [ybgy]
 | y :: ys,hS,h=>by
  have hy:S y:=hS y (by simp)
  have hys:∀ z ∈ ys,S z:=fun z hz=>hS z (by simp [hz])
  unfold ybgy
  have h':=List.pairwise_cons.1 h
  split
  ·rename_i hlt
   refine List.pairwise_cons.2 ⟨fun z hz=>?_,ymJy hp x hx ys hys h'.2⟩
   rcases List.mem_cons.1 ((ybFy c x ys).mem_iff.1 hz) with rfl | hz
   ·exact Int.le_of_lt hlt
   ·exact h'.1 z hz
  ·rename_i hlt
   have hyx:c y x≤0:=by
    rcases hp.total y x hy hx with h1 | h1
    ·exact h1
    ·have:=(hp.neg x y hx hy)
     by_cases h2:c y x≤0
     ·exact h2
     ·exact absurd (this.2 h2) hlt
   refine List.pairwise_cons.2 ⟨fun z hz=>?_,h⟩
   rcases List.mem_cons.1 hz with rfl | hz
   ·exact hyx
   ·exact hp.trans z y x (hys z hz) hy hx (h'.1 z hz) hyx
theorem yj8y {α:Type} {c:α→α→Int} {S:α→Prop} (hp:Pre c S):∀ l acc:List α,(∀ y ∈ l,S y)→(∀ y ∈ acc,S y)→acc.Pairwise (fun a b=>c b a≤0)→(ybhy c acc l).Pairwise (fun a b=>c b a≤0)
 | [],_,_,_,h=>h
 | x :: xs,acc,h1,h2,h=>by
  unfold ybhy
  refine yj8y hp xs _ (fun y hy=>h1 y (by simp [hy])) (fun y hy=>?_) (ymJy hp x (h1 x (by simp)) acc h2 h)
  rcases List.mem_cons.1 ((ybFy c x acc).mem_iff.1 hy) with rfl | hy
  ·exact h1 _ (by simp)
  ·exact h2 y hy
theorem yn3y {α:Type} {c:α→α→Int} {S:α→Prop} (hp:Pre c S) (l:List α) (h:∀ y ∈ l,S y):(sortI c l).Pairwise (fun a b=>c a b≤0):=by
 unfold sortI
 rw [List.pairwise_reverse]
 exact yj8y hp l [] h (fun y hy=>by cases hy) List.Pairwise.nil
theorem ykvy {α:Type} (pre:List α) (a b:α) (post:List α):(pre ++ a :: post).set pre.length b = pre ++ b :: post:=by
 induction pre with
 | nil=>rfl
 | cons x xs ih=>simp [ih]
theorem yeFy {α:Type} (pre:List α) (a:α) (post:List α):(pre ++ a :: post)[pre.length]? = some a:=by simp
theorem yswy {α:Type} (cmp:CmpT α) (c:α→α→Int) (S:α→Prop) (hc:∀ x y,S x→S y→∀ (R:Type) (k:Int→Option R),cmp x y k = k (c x y)) (x:α) (hx:S x) (b i:Int) :
  ∀ (rs post:List α) (n:Nat),(∀ y ∈ rs,S y)→rs.length < n→rs.length + post.length < 4611686018427387000→∀ (R:Type) (e0:Int→Int→Int→List α→Option R),
  ydOy cmp n 0 b i (rs.length:Int) (rs.reverse ++ x :: post) e0 = e0 0 b i ((ybgy c x rs).reverse ++ post)
 | _,_,0,_,h,_,_,_=>by omega
 | [],post,n + 1,_,_,_,R,e0=>by rw [ydOy]; simp [ybgy]
 | y :: ys,post,n + 1,hS,hn,hl,R,e0=>by
  have hy:S y:=hS y (by simp)
  have e1:w64 (((y :: ys).length:Nat) - 1:Int) = (ys.length:Int):=by
   rw [yaky (by omega) (by simp at hl ⊢; omega)]; simp
  have hd:(y :: ys).reverse ++ x :: post = ys.reverse ++ y :: x :: post:=by simp
  have g1:(ys.reverse ++ y :: x :: post)[ys.length]? = some y:=by
   have:=yeFy ys.reverse y (x :: post); rwa [List.length_reverse] at this
  have hd2:ys.reverse ++ y :: x :: post = (ys.reverse ++ [y]) ++ x :: post:=by simp
  have g2:(ys.reverse ++ y :: x :: post)[ys.length + 1]? = some x:=by
   have:=yeFy (ys.reverse ++ [y]) x post
   rw [← hd2] at this; rwa [List.length_append,List.length_reverse] at this
  have len1:(ys.reverse ++ y :: x :: post).length = ys.length + 2 + post.length:=by simp; omega
  have s1:(ys.reverse ++ y :: x :: post).set (ys.length + 1) y = ys.reverse ++ y :: y :: post:=by
   have:=ykvy (ys.reverse ++ [y]) x y post
   rw [← hd2] at this
   rw [List.length_append,List.length_reverse] at this
   refine Eq.trans this ?_
   simp
  have s2:(ys.reverse ++ y :: y :: post).set ys.length x = ys.reverse ++ x :: y :: post:=by
   have:=ykvy ys.reverse y x (y :: post); rwa [List.length_reverse] at this
  have g3:(ys.reverse ++ y :: y :: post)[ys.length]? = some y:=by
   have:=yeFy ys.reverse y (y :: post); rwa [List.length_reverse] at this
  have c1:(((y :: ys).length:Nat):Int) = ((ys.length + 1:Nat):Int):=by simp
  rw [ydOy]
  rw [decide_eq_true (show (((y :: ys).length:Nat):Int) > 0 by simp)]
  simp only [cond_true,hd,e1]
  rw [c1]
  rw [ya6y (by omega),yaOy g2,ya6y (by omega),yaOy g1,hc x y hx hy]
  unfold ybgy
  by_cases hlt:c x y < 0
  ·rw [decide_eq_true hlt,if_pos hlt]
   simp only [cond_true]
   rw [ya6y (by omega),yaOy g1,ya6y (by omega),yaOy g2,ya6y (by omega),yaOy g2,ydjy,s1,ya6y (by simp),yaOy g3,ydjy,s2]
   rw [yswy cmp c S hc x hx b i ys (y :: post) n (fun z hz=>hS z (by simp [hz])) (by simp at hn; omega) (by simp at hl ⊢; omega) R e0]
   simp
  ·rw [decide_eq_false hlt,if_neg hlt]
   simp
theorem ysLy {α:Type} (N:Nat) (cmp:CmpT α) (c:α→α→Int) (S:α→Prop) (hc:∀ x y,S x→S y→∀ (R:Type) (k:Int→Option R),cmp x y k = k (c x y)) (len:Nat) (hlen:len < 4611686018427380000) (hN:len < N) :
  ∀ (rest acc:List α) (n:Nat),(∀ y ∈ acc,S y)→(∀ y ∈ rest,S y)→acc.length + rest.length = len→rest.length < n→∀ (R:Type) (e0:List α→Option R),
  ycCy N cmp n 0 (len:Int) (acc.length:Int) (acc.reverse ++ rest) e0 = e0 (ybhy c acc rest).reverse
 | _,_,0,_,_,_,h,_,_=>by omega
 | [],acc,n + 1,_,_,hl,_,R,e0=>by
  rw [ycCy,decide_eq_false (by simp at hl; omega)]
  simp [ybhy]
 | x :: xs,acc,n + 1,hS,hS2,hl,hn,R,e0=>by
  have hx:S x:=hS2 x (by simp)
  have hlx:(ybgy c x acc).length = acc.length + 1:=by rw [(ybFy c x acc).length_eq]; simp
  rw [ycCy,decide_eq_true (by simp at hl; omega)]
  simp only [cond_true]
  rw [yswy cmp c S hc x hx (len:Int) (acc.length:Int) acc xs N hS (by simp at hl; omega) (by simp at hl; omega),yamy (by omega),← hlx]
  rw [ysLy N cmp c S hc len hlen hN xs (ybgy c x acc) n (fun y hy=>by
   rcases List.mem_cons.1 ((ybFy c x acc).mem_iff.1 hy) with rfl | hy
   ·exact hx
   ·exact hS y hy) (fun y hy=>hS2 y (by simp [hy])) (by simp at hl ⊢; omega) (by simp at hn; omega) R e0]
  rfl
theorem yoUy {α:Type} {N:Nat} {cmp:CmpT α} (c:α→α→Int) (S:α→Prop) (hc:∀ x y,S x→S y→∀ (R:Type) (k:Int→Option R),cmp x y k = k (c x y)) (l:List α) (hS:∀ y ∈ l,S y) (hN:l.length + 1 < N) (hN2:N≤4611686018427380000) {R:Type} (k:List α→Option R) :
  sIns N cmp l 0 (l.length:Int) k = k (sortI c l):=by
 unfold sIns
 rw [yaky (by omega) (by omega)]
 cases l with
 | nil =>
  obtain ⟨m,rfl⟩:∃ m,N = m + 1:=⟨N - 1,by omega⟩
  rw [ycCy]; simp [sortI,ybhy]
 | cons x xs =>
  have h:=ysLy N cmp c S hc (x :: xs).length (by omega) (by omega) xs [x] N (by simpa using hS x (by simp)) (fun y hy=>hS y (by simp [hy])) (by simp; omega) (by simp at hN; omega) R (fun e54=>k e54)
  simp only [List.length_singleton,List.reverse_singleton,List.singleton_append] at h
  exact h
theorem yrny {α:Type} {N:Nat} {cmp:CmpT α} (l:List α) (a:Int) (h1:-1000000≤a) (h2:a≤1000000000) (hN:0 < N) {R:Type} (k:List α→Option R):sIns N cmp l a a k = k l:=by
 unfold sIns
 obtain ⟨m,rfl⟩:∃ m,N = m + 1:=⟨N - 1,by omega⟩
 rw [yaky (by omega) (by omega),ycCy,decide_eq_false (by omega)]
 rfl
end Go.Am
set_option linter.unusedVariables false
set_option linter.unusedSimpArgs false
set_option maxRecDepth 100000
namespace Go.Am
open Go
def yhYy {α:Type} (ins:List α→Int→Int→{R:Type}→(List α→Option R)→Option R):Nat→Int→Int→Int→Int→List α→{R:Type}→(Int→Int→Int→List α→Option R)→Option R
 | 0,_,_,_,_,_,_,_=>none
 | n + 1,v3,v4,v5,v6,v7,_,e0=>(bif (decide (v6≤v3)) then (ins v7 v5 v6 (fun r9=>yhYy ins n v3 v4 v6 (w64 (v6 + v4)) r9 e0)) else e0 v3 v4 v5 v7)
theorem yDey {α:Type} {N M:Nat} {cmp:CmpT α} (c:α→α→Int) (S:α→Prop) (hc:∀ x y,S x→S y→∀ (R:Type) (k:Int→Option R),cmp x y k = k (c x y)) (l:List α) (hS:∀ y ∈ l,S y) (hl:l.length≤20) (hN:1000≤N) (hN2:N≤4611686018427380000) {R:Type} (e0:Int→Int→Int→List α→Option R)
  (ins:List α→Int→Int→{R:Type}→(List α→Option R)→Option R) (hi:∀ l a b (R:Type) (k:List α→Option R),ins l a b k = sIns N cmp l a b k) :
  (yhYy ins (M + 3) (l.length:Int) 20 0 20 l e0 = if l.length = 20 then e0 (l.length:Int) 20 20 (sortI c l) else e0 (l.length:Int) 20 0 l):=by
 rw [yhYy]
 by_cases h:l.length = 20
 ·rw [decide_eq_true (by omega),if_pos h]
  simp only [cond_true,hi]
  have h20:(20:Int) = (l.length:Int):=by omega
  have e1:=yoUy (N:=N) c S hc l hS (by omega) hN2 (fun r9=>yhYy ins (M + 2) (l.length:Int) 20 20 (w64 (20 + 20)) r9 e0)
  rw [← h20] at e1
  rw [← h20,e1,yhYy,yaky (by omega) (by omega),decide_eq_false (by omega)]
  rfl
 ·rw [decide_eq_false (by omega),if_neg h]
  rfl
def yMXy {α:Type}:Nat→Int→Int→Int→Int→List α→{R:Type}→(Int→Int→Int→List α→Option R)→Option R
 | 0,_,_,_,_,_,_,_=>none
 | n + 1,v30,v31,v32,v33,v34,_,e0=>(bif (decide (v33≤v30)) then none else e0 v30 v31 v32 v34)
def yo2y {α:Type} (N:Nat):Nat→Int→Int→List α→{R:Type}→(List α→Option R)→Option R
 | 0,_,_,_,_,_=>none
 | n + 1,v15,v16,v17,_,e0=>(bif (decide (v16 < v15)) then (yMXy N v15 v16 0 (w64 (2 * v16)) v17 (fun e37 e38 e39 e40=>(bif (decide ((w64 (e39 + e38)) < e37)) then none else yo2y N n e37 (w64 (e38 * 2)) e40 e0))) else e0 v17)
def sSta {α:Type} (N:Nat) (ins:List α→Int→Int→{R:Type}→(List α→Option R)→Option R) (a1:List α) (a2:Int) {R:Type} (k0:List α→Option R):Option R :=
 (yhYy ins N a2 20 0 20 a1 (fun e10 e11 e12 e13=>(ins e13 e12 e10 (fun r14=>(yo2y N N e10 e11 r14 (fun e42=>k0 e42))))))
theorem yB4y {α:Type} {N:Nat} {cmp:CmpT α} (c:α→α→Int) (S:α→Prop) (hc:∀ x y,S x→S y→∀ (R:Type) (k:Int→Option R),cmp x y k = k (c x y)) (l:List α) (hS:∀ y ∈ l,S y) (hl:l.length≤20) (hN:1000≤N) (hN2:N≤4611686018427380000) (ins:List α→Int→Int→{R:Type}→(List α→Option R)→Option R) (hi:∀ l a b (R:Type) (k:List α→Option R),ins l a b k = sIns N cmp l a b k) {R:Type} (k:List α→Option R) :
  sSta N ins l (l.length:Int) k = k (sortI c l):=by
 obtain ⟨m,rfl⟩:∃ m,N = m + 3:=⟨N - 3,by omega⟩
 unfold sSta
 rw [yDey (N:=m + 3) c S hc l hS hl hN hN2 _ ins hi]
 simp only [hi]
 have h7:∀ r:List α,yo2y (m + 3) (m + 3) (l.length:Int) 20 r k = k r:=fun r=>by
  rw [yo2y,decide_eq_false (by omega)]; rfl
 split
 ·rename_i h
  have h20:(l.length:Int) = 20:=by omega
  rw [h20] at h7 ⊢
  rw [yrny _ _ (by omega) (by omega) (by omega)]
  exact h7 _
 ·rw [yoUy c S hc l hS (by omega) hN2]
  exact h7 _
def yaQy {α:Type} (eq:α→α→Bool):α→List α→List α
 | _,[]=>[]
 | p,y :: ys=>if eq y p then yaQy eq y ys else y :: yaQy eq y ys
def ybSy {α:Type} (eq:α→α→Bool):List α→List α
 | []=>[]
 | x :: xs=>x :: yaQy eq x xs
theorem yhCy {α:Type} (eq:α→α→Bool):∀ (l:List α) (p x:α),x ∈ yaQy eq p l→x ∈ l
 | [],_,_,h=>by cases h
 | y :: ys,p,x,h=>by
  unfold yaQy at h
  split at h
  ·exact List.mem_cons_of_mem _ (yhCy eq ys y x h)
  ·rcases List.mem_cons.1 h with rfl | h
   ·exact List.mem_cons_self
   ·exact List.mem_cons_of_mem _ (yhCy eq ys y x h)
theorem yiKy {α:Type} {eq:α→α→Bool} {l:List α} {x:α} (h:x ∈ ybSy eq l):x ∈ l:=by
 cases l with
 | nil=>cases h
 | cons y ys =>
  rcases List.mem_cons.1 h with rfl | h
  ·exact List.mem_cons_self
  ·exact List.mem_cons_of_mem _ (yhCy eq ys y x h)
theorem ymwy {α:Type} (eq:α→α→Bool):∀ (l:List α) (p:α),(yaQy eq p l).length≤l.length
 | [],_=>Nat.le_refl _
 | y :: ys,p=>by
  unfold yaQy
  have:=ymwy eq ys y
  split <;> simp <;> omega
theorem ynWy {α:Type} (eq:α→α→Bool) (l:List α):(ybSy eq l).length≤l.length:=by
 cases l with
 | nil=>exact Nat.le_refl _
 | cons y ys=>have:=ymwy eq ys y; simp [ybSy]; omega
def EqT (α:Type):Type 1:=α→α→{R:Type}→(Bool→Option R)→Option R
def yeyy {α:Type} (eq:EqT α):Nat→Int→Int→Int→Int→List α→{R:Type}→(Int→List α→Option R)→Option R
 | 0,_,_,_,_,_,_,_=>none
 | n + 1,v27,v28,v29,v30,v31,_,e0=>(bif (decide (v30 < ((v29 - v28).toNat:Int))) then (bif (decide (0≤v30) && (decide (v30 < v29 - v28) && decide (v28 + v30 < (v31.length:Int)))) then (at_ v31 (v28 + v30) fun x37=>(bif (decide (0≤(w64 (v30 - 1))) && (decide ((w64 (v30 - 1)) < v29 - v28) && decide (v28 + (w64 (v30 - 1)) < (v31.length:Int)))) then (at_ v31 (v28 + (w64 (v30 - 1))) fun x38=>(eq x37 x38 (fun r39=>(bif (!r39) then (bif (decide (0≤v30) && (decide (v30 < v29 - v28) && decide (v28 + v30 < (v31.length:Int)))) then (at_ v31 (v28 + v30) fun x40=>(inr v31 v27 (at_ v31 v27 fun x41=>yeyy eq n (w64 (v27 + 1)) v28 v29 (w64 (v30 + 1)) (set_ v31 v27 x40) e0))) else none) else yeyy eq n v27 v28 v29 (w64 (v30 + 1)) v31 e0)))) else none)) else none) else e0 v27 v31)
def sCut {α:Type} (z:α) (e36:Int) (e37:List α) {R:Type} (e0:List α→Option R):Option R:=(bif (decide (0 < e37.length) && (decide (0≤e36) && decide (e36≤(e37.length:Int)))) then (bif (decide (0≤e36) && (decide (e36≤(e37.length:Int)) && decide (((e37.length:Int)).toNat≤e37.length))) then (bif (decide (0≤e36) && decide (e36≤((e37.take (e36).toNat ++ (List.replicate ((e37.length:Int) - e36).toNat z ++ e37.drop ((e37.length:Int)).toNat)).length:Int))) then e0 ((e37.take (e36).toNat ++ (List.replicate ((e37.length:Int) - e36).toNat z ++ e37.drop ((e37.length:Int)).toNat)).take (e36:Int).toNat) else none) else none) else none)
theorem yB5y {α:Type} {z:α} {i:Nat} {l:List α} (h0:0 < l.length) (h:i≤l.length) {R:Type} (e0:List α→Option R):sCut z (i:Int) l e0 = e0 (l.take i):=by
 unfold sCut
 have d1:(decide (0 < l.length) && (decide (0≤(i:Int)) && decide ((i:Int)≤(l.length:Int)))) = true:=by simp; omega
 have d2:(decide (0≤(i:Int)) && (decide ((i:Int)≤(l.length:Int)) && decide (((l.length:Int)).toNat≤l.length))) = true:=by simp; omega
 have d3:(decide (0≤(i:Int)) && decide ((i:Int)≤((l.take ((i:Int)).toNat ++ (List.replicate ((l.length:Int) - (i:Int)).toNat z ++ l.drop ((l.length:Int)).toNat)).length:Int))) = true:=by
  simp; omega
 rw [d1,d2,d3]
 simp only [cond_true]
 congr 1
 rw [Int.toNat_natCast,List.take_append_of_le_length (by simp; omega),List.take_take]
 simp
def yipy {α:Type} (N:Nat) (z:α) (eq:EqT α):Nat→Int→List α→{R:Type}→(List α→Option R)→(List α→Option R)→Option R
 | 0,_,_,_,_,_=>none
 | n + 1,v2,v3,_,e0,e1=>(bif (decide (v2 < (v3.length:Int))) then (inr v3 v2 (at_ v3 v2 fun x24=>(inr v3 (w64 (v2 - 1)) (at_ v3 (w64 (v2 - 1)) fun x25=>(eq x24 x25 (fun r26=>(bif r26 then (bif (decide (0 < v3.length) && (decide (0≤v2) && decide (v2≤(v3.length:Int)))) then (yeyy eq N v2 v2 (v3.length:Int) 1 v3 (fun e42 e43=>sCut z e42 e43 e0)) else none) else yipy N z eq n (w64 (v2 + 1)) v3 e0 e1))))))) else e1 v3)
def sComp {α:Type} (N:Nat) (z:α) (eq:EqT α) (a1:List α) {R:Type} (k0:List α→Option R):Option R :=
 (bif (decide ((a1.length:Int) < 2)) then k0 a1 else (yipy N z eq N 1 a1 (fun e44=>k0 e44) (fun e45=>k0 e45)))
theorem yjHy {α:Type} (eq:EqT α) (q:α→α→Bool) (S:α→Prop) (he:∀ x y,S x→S y→∀ (R:Type) (k:Bool→Option R),eq x y k = k (q x y)) (i len:Nat) (hlen:len < 4611686018427380000) :
  ∀ (rest:List α) (p:α) (n k j:Nat) (l out:List α),l.length = len→l.drop (j - 1) = p :: rest→i + 1≤j→k + 1≤j→l.take k = out→(∀ y ∈ p :: rest,S y)→rest.length < n →
  ∃ (k':Nat) (l':List α),l'.length = len∧k'≤len∧l'.take k' = out ++ yaQy q p rest∧∀ (R:Type) (e0:Int→List α→Option R),yeyy eq n (k:Int) (i:Int) (len:Int) ((j - i:Nat):Int) l e0 = e0 (k':Int) l'
 | _,_,0,_,_,_,_,_,_,_,_,_,_,h=>by omega
 | [],p,n + 1,k,j,l,out,h1,h2,h3,h4,h5,h6,h7=>by
  have hd:=yaly h2
  simp at hd
  refine ⟨k,l,h1,by omega,by simp [yaQy,h5],fun R e0=>?_⟩
  rw [yeyy,decide_eq_false (by omega)]; rfl
 | y :: ys,p,n + 1,k,j,l,out,h1,h2,h3,h4,h5,h6,h7=>by
  have hd:=yaly h2
  have hj:j - 1 + 1 = j:=by omega
  rw [hj] at hd
  have hd2:=yaly hd.2.2.1
  have hy:S y:=h6 y (by simp)
  have hp:S p:=h6 p (by simp)
  have hlt:j < l.length:=hd2.2.1
  have d1:decide (((j - i:Nat):Int) < (((len:Int) - (i:Int)).toNat:Int)) = true:=decide_eq_true (by omega)
  have d2:(decide (0≤((j - i:Nat):Int)) && (decide (((j - i:Nat):Int) < (len:Int) - (i:Int)) && decide ((i:Int) + ((j - i:Nat):Int) < (l.length:Int)))) = true:=by simp; omega
  have e1:w64 (((j - i:Nat):Int) - 1) = ((j - i - 1:Nat):Int):=by rw [yaky (by omega) (by omega)]; omega
  have d3:(decide (0≤((j - i - 1:Nat):Int)) && (decide (((j - i - 1:Nat):Int) < (len:Int) - (i:Int)) && decide ((i:Int) + ((j - i - 1:Nat):Int) < (l.length:Int)))) = true:=by simp; omega
  have t1:(i:Int) + ((j - i:Nat):Int) = (j:Int):=by omega
  have t2:(i:Int) + ((j - i - 1:Nat):Int) = ((j - 1:Nat):Int):=by omega
  have e2:w64 (((j - i:Nat):Int) + 1) = ((j + 1 - i:Nat):Int):=by rw [yaky (by omega) (by omega)]; omega
  have e3:w64 ((k:Int) + 1) = ((k + 1:Nat):Int):=yamy (by omega)
  cases hq:q y p with
  | true =>
   obtain ⟨k',l',a1,a2,a3,a4⟩:=yjHy eq q S he i len hlen ys y n k (j + 1) l out h1 (by simpa using hd.2.2.1) (by omega) (by omega) h5 (fun z hz=>h6 z (List.mem_cons_of_mem _ hz)) (by simp at h7; omega)
   refine ⟨k',l',a1,a2,by rw [a3]; simp [yaQy,hq],fun R e0=>?_⟩
   rw [yeyy,d1]
   simp only [cond_true,d2,e1,d3]
   rw [t1,yaOy hd2.1,t2,yaOy hd.1,he y p hy hp,hq]
   simp only [Bool.not_true,cond_false]
   rw [e2]
   exact a4 R e0
  | false =>
   have hk:k < l.length:=by omega
   have gk:l[k]? = some l[k]:=List.getElem?_eq_getElem hk
   obtain ⟨k',l',a1,a2,a3,a4⟩:=yjHy eq q S he i len hlen ys y n (k + 1) (j + 1) (l.set k y) (out ++ [y]) (by simpa using h1) (by
     show (l.set k y).drop j = y :: ys
     rw [List.drop_set_of_lt (by omega)]; exact hd.2.2.1) (by omega) (by omega) (by
     rw [List.take_add_one,List.getElem?_set_self hk,← h5]; simp [List.take_set_of_le (Nat.le_refl k)]) (fun z hz=>h6 z (List.mem_cons_of_mem _ hz)) (by simp at h7; omega)
   refine ⟨k',l',a1,a2,by rw [a3]; simp [yaQy,hq],fun R e0=>?_⟩
   rw [yeyy,d1]
   simp only [cond_true,d2,e1,d3]
   rw [t1,yaOy hd2.1,t2,yaOy hd.1,he y p hy hp,hq]
   simp only [Bool.not_false,cond_true]
   rw [yaOy hd2.1,ya6y hk,yaOy gk,e2,e3,ydjy]
   exact a4 R e0
theorem ytMy {α:Type} (N:Nat) (z:α) (eq:EqT α) (q:α→α→Bool) (S:α→Prop) (he:∀ x y,S x→S y→∀ (R:Type) (k:Bool→Option R),eq x y k = k (q x y)) (l:List α) (hl:l.length < 4611686018427380000) (hN:l.length < N) (hS:∀ y ∈ l,S y) :
  ∀ (rest:List α) (p:α) (n i:Nat),l.drop (i - 1) = p :: rest→1≤i→rest.length < n→∀ (R:Type) (k:List α→Option R),yipy N z eq n (i:Int) l k k = k (l.take i ++ yaQy q p rest)
 | _,_,0,_,_,_,h,_,_=>by omega
 | [],p,n + 1,i,h,hi,_,R,k=>by
  have hd:=yaly h
  simp at hd
  rw [yipy,decide_eq_false (by omega)]
  simp only [cond_false]
  congr 1
  rw [List.take_of_length_le (by omega)]; simp [yaQy]
 | y :: ys,p,n + 1,i,h,hi,hn,R,k=>by
  have hd:=yaly h
  have hj:i - 1 + 1 = i:=by omega
  rw [hj] at hd
  have hd2:=yaly hd.2.2.1
  have hy:S y:=hS y (yaWy hd.2.2.1)
  have hp:S p:=hS p (yaWy h)
  have hlt:i < l.length:=hd2.2.1
  rw [yipy,decide_eq_true (by omega)]
  simp only [cond_true]
  rw [ya6y hlt,yaOy hd2.1,yyAy (by omega) (by omega),ya6y (by omega),yaOy hd.1,he y p hy hp]
  unfold yaQy
  cases hq:q y p with
  | true =>
   simp only [cond_true,if_true]
   rw [show (decide (0 < l.length) && (decide (0≤(i:Int)) && decide ((i:Int)≤(l.length:Int)))) = true by simp; omega]
   obtain ⟨k',l',a1,a2,a3,a4⟩:=yjHy eq q S he i l.length hl ys y N i (i + 1) l (l.take i) rfl (by simpa using hd.2.2.1) (by omega) (by omega) rfl (fun w hw=>hS w (by
     rcases List.mem_cons.1 hw with rfl | hw
     ·exact yaWy hd.2.2.1
     ·exact yG6y hd2.2.2.1 w hw)) (by omega)
   have e:((i + 1 - i:Nat):Int) = 1:=by omega
   rw [e] at a4
   simp only [cond_true,a4]
   rw [yB5y (by omega) (by omega),a3]
  | false =>
   simp only [cond_false,Bool.false_eq_true,if_false]
   rw [yamy (by omega),ytMy N z eq q S he l hl hN hS ys y n (i + 1) (by simpa using hd.2.2.1) (by omega) (by simp at hn; omega) R k]
   congr 1
   rw [List.take_add_one,hd2.1]; simp
theorem ywKy {α:Type} {N:Nat} {z:α} {eq:EqT α} (q:α→α→Bool) (S:α→Prop) (he:∀ x y,S x→S y→∀ (R:Type) (k:Bool→Option R),eq x y k = k (q x y)) (l:List α) (hl:N < 4611686018427380000) (hN:l.length < N) (hS:∀ y ∈ l,S y) {R:Type} (k:List α→Option R) :
  sComp N z eq l k = k (ybSy q l):=by
 unfold sComp
 match l,hN,hS with
 | [],_,_=>rfl
 | [x],_,_=>rfl
 | x :: y :: ys,hN,hS =>
  rw [decide_eq_false (by simp; omega)]
  have h:=ytMy N z eq q S he (x :: y :: ys) (by omega) hN hS (y :: ys) x N 1 rfl (by omega) (by simp at hN ⊢; omega) R k
  refine Eq.trans h ?_
  simp [ybSy]
def ybYy {α σ:Type} (f:α→σ→{R:Type}→(Bool→σ→Option R)→Option R):Nat→Int→Int→List α→σ→{R:Type}→(Int→List α→σ→Option R)→(List α→σ→Option R)→Option R
 | 0,_,_,_,_,_,_,_=>none
 | n + 1,v3,v4,v5,v6,_,e0,e1=>(bif (decide (v4 < v3)) then (inr v5 v4 (at_ v5 v4 fun x10=>(f x10 v6 (fun r11 r12=>(bif r11 then e0 v4 v5 r12 else ybYy f n v3 (w64 (v4 + 1)) v5 r12 e0 e1))))) else e1 v5 v6)
theorem ynGy {α σ:Type} (f:α→σ→{R:Type}→(Bool→σ→Option R)→Option R) (p:α→Bool) (s:σ) (l:List α) (hf:∀ x ∈ l,∀ (R:Type) (k:Bool→σ→Option R),f x s k = k (p x) s) (hl:l.length < 4611686018427387904) :
  ∀ (xs:List α) (n i:Nat),l.drop i = xs→xs.length < n→∀ (R:Type) (e0:Int→List α→σ→Option R) (e1:List α→σ→Option R),
  ybYy f n (l.length:Int) (i:Int) l s e0 e1 = match xs.findIdx? p with | some j=>e0 ((i + j:Nat):Int) l s | none=>e1 l s
 | _,0,_,_,h,_,_,_=>by omega
 | [],n + 1,i,h,_,_,_,_=>by rw [ybYy,yaCy h]; rfl
 | x :: xs,n + 1,i,h,hn,R,e0,e1=>by
  have h':=yaly h
  rw [ybYy,yayy h]
  simp only [cond_true,ycuy h,ydfy h,List.findIdx?_cons,hf x (yaWy h)]
  cases hq:p x with
  | true=>simp
  | false =>
   simp only [cond_false]
   rw [yamy (by omega),ynGy f p s l hf hl xs n (i + 1) h'.2.2.1 (by simp at hn; omega) R e0 e1]
   cases xs.findIdx? p with
   | none=>rfl
   | some j=>simp; congr 1; omega
def yBsy {α σ:Type} (N:Nat) (f:α→σ→{R:Type}→(Bool→σ→Option R)→Option R) (a1:List α) (a2:σ) {R:Type} (k0:Int→List α→σ→Option R):Option R:=(ybYy f N (a1.length:Int) 0 a1 a2 (fun e9 e10 e11=>k0 e9 e10 e11) (fun e f=>k0 (-1) e f))
theorem ytPy {α σ:Type} {N:Nat} (f:α→σ→{R:Type}→(Bool→σ→Option R)→Option R) (p:α→Bool) (s:σ) (l:List α) (hf:∀ x ∈ l,∀ (R:Type) (k:Bool→σ→Option R),f x s k = k (p x) s) (hN:l.length < N) (hN2:N≤4611686018427387904) {R:Type} (k:Int→List α→σ→Option R) :
  yBsy N f l s k = k (idxI p l) l s:=by
 unfold yBsy
 have h:=ynGy f p s l hf (by omega) l N 0 rfl hN R (fun e9 e10 e11=>k e9 e10 e11) (fun e f=>k (-1) e f)
 refine h.trans ?_
 unfold idxI
 cases l.findIdx? p with
 | none=>rfl
 | some j=>simp
def ycQy {α σ:Type} (f:α→σ→{R:Type}→(Bool→σ→Option R)→Option R):Nat→Int→Int→List α→σ→{R:Type}→(Int→List α→σ→Option R)→Option R
 | 0,_,_,_,_,_,_=>none
 | n + 1,v6,v7,v8,v9,_,e0=>(bif (decide (v7 < (v8.length:Int))) then (inr v8 v7 (at_ v8 v7 fun x14=>(f x14 v9 (fun r15 r16=>(bif (!r15) then (inr v8 v6 (at_ v8 v6 fun x17=>ycQy f n (w64 (v6 + 1)) (w64 (v7 + 1)) (set_ v8 v6 x14) r16 e0)) else ycQy f n v6 (w64 (v7 + 1)) v8 r16 e0))))) else e0 v6 v8 v9)
theorem ykJy {α σ:Type} (f:α→σ→{R:Type}→(Bool→σ→Option R)→Option R) (p:α→Bool) (s:σ) (S:α→Prop) (hf:∀ x,S x→∀ (R:Type) (k:Bool→σ→Option R),f x s k = k (p x) s) (len:Nat) (hlen:len < 4611686018427380000) :
  ∀ (rest:List α) (n k j:Nat) (l out:List α),l.length = len→l.drop j = rest→k + 1≤j→l.take k = out→(∀ y ∈ rest,S y)→k≤len→rest.length < n →
  ∃ (k':Nat) (l':List α),l'.length = len∧k'≤len∧l'.take k' = out ++ rest.filter (fun x=>!p x)∧∀ (R:Type) (e0:Int→List α→σ→Option R),ycQy f n (k:Int) (j:Int) l s e0 = e0 (k':Int) l' s
 | _,0,_,_,_,_,_,_,_,_,_,_,h=>by omega
 | [],n + 1,k,j,l,out,h1,h2,h3,h4,_,hk,h7=>by
  refine ⟨k,l,h1,hk,by simp [h4],fun R e0=>?_⟩
  rw [ycQy,yaCy h2]; rfl
 | y :: ys,n + 1,k,j,l,out,h1,h2,h3,h4,h5,hk0,h7=>by
  have hd:=yaly h2
  have hy:S y:=h5 y (by simp)
  have hk:k < l.length:=by omega
  cases hq:p y with
  | true =>
   obtain ⟨k',l',a1,a2,a3,a4⟩:=ykJy f p s S hf len hlen ys n k (j + 1) l out h1 hd.2.2.1 (by omega) h4 (fun z hz=>h5 z (by simp [hz])) hk0 (by simp at h7; omega)
   refine ⟨k',l',a1,a2,by rw [a3]; simp [hq],fun R e0=>?_⟩
   rw [ycQy,yayy h2]
   simp only [cond_true,ycuy h2,ydfy h2,hf y hy,hq,Bool.not_true,cond_false]
   rw [yamy (by omega)]
   exact a4 R e0
  | false =>
   have gk:l[k]? = some l[k]:=List.getElem?_eq_getElem hk
   obtain ⟨k',l',a1,a2,a3,a4⟩:=ykJy f p s S hf len hlen ys n (k + 1) (j + 1) (l.set k y) (out ++ [y]) (by simpa using h1) (by
     rw [List.drop_set_of_lt (by omega)]; exact hd.2.2.1) (by omega) (by
     rw [List.take_add_one,List.getElem?_set_self hk,← h4]; simp [List.take_set_of_le (Nat.le_refl k)]) (fun z hz=>h5 z (by simp [hz])) (by omega) (by simp at h7; omega)
   refine ⟨k',l',a1,a2,by rw [a3]; simp [hq],fun R e0=>?_⟩
   rw [ycQy,yayy h2]
   simp only [cond_true,ycuy h2,ydfy h2,hf y hy,hq,Bool.not_false]
   rw [ya6y hk,yaOy gk,yamy (by omega),yamy (by omega),ydjy]
   exact a4 R e0
def yAay {α σ:Type} (N:Nat) (z:α) (f:α→σ→{R:Type}→(Bool→σ→Option R)→Option R) (r3:Int) (r4:List α) (r5:σ) {R:Type} (k0:List α→σ→Option R):Option R :=
 (bif (r3 == (-1)) then k0 r4 r5 else (ycQy f N r3 (w64 (r3 + 1)) r4 r5 (fun e18 e19 e20=>sCut z e18 e19 (fun l=>k0 l e20))))
theorem yqry {α σ:Type} {N:Nat} {z:α} {f:α→σ→{R:Type}→(Bool→σ→Option R)→Option R} (p:α→Bool) (s:σ) (l:List α) (hf:∀ x ∈ l,∀ (R:Type) (k:Bool→σ→Option R),f x s k = k (p x) s) (hN:l.length < N) (hN2:N < 4611686018427380000) {R:Type} (k:List α→σ→Option R) :
  yAay N z f (idxI p l) l s k = k (l.filter (fun x=>!p x)) s:=by
 unfold yAay idxI
 cases h:l.findIdx? p with
 | none =>
  simp only [beq_self_eq_true,cond_true]
  rw [List.findIdx?_eq_none_iff] at h
  rw [List.filter_eq_self.2 (fun x hx=>by simp [h x hx])]
 | some i =>
  have hi:=List.findIdx?_eq_some_iff_getElem.1 h
  obtain ⟨hlt,hpi,hprev⟩:=hi
  simp only
  rw [show (((i:Nat):Int) == -1) = false by rw [beq_eq_false_iff_ne]; omega]
  simp only [cond_false]
  rw [yamy (by omega)]
  have hsplit:l = l.take i ++ l[i] :: l.drop (i + 1):=by rw [← List.drop_eq_getElem_cons hlt,List.take_append_drop]
  obtain ⟨k',l',a1,a2,a3,a4⟩:=ykJy f p s (· ∈ l) hf l.length (by omega) (l.drop (i + 1)) N i (i + 1) l (l.take i) rfl rfl (Nat.le_refl _) rfl (fun y hy=>List.mem_of_mem_drop hy) (by omega) (by simp; omega)
  rw [a4,yB5y (by omega) (by omega),a3]
  congr 1
  conv=>rhs; rw [hsplit]
  rw [List.filter_append,List.filter_cons]
  simp only [hpi,Bool.not_true,Bool.false_eq_true,if_false]
  congr 1
  rw [List.filter_eq_self.2]
  intro x hx
  obtain ⟨j,hj⟩:=List.getElem?_of_mem hx
  have hji:j < i:=by
   rcases Nat.lt_or_ge j i with h | h
   ·exact h
   ·rw [List.getElem?_eq_none (by simp; omega)] at hj; cases hj
  rw [List.getElem?_take_of_lt hji,List.getElem?_eq_getElem (by omega)] at hj
  cases hj
  have:=hprev j hji
  simpa using this
theorem yDPy {α:Type} {by_:Nat} (l:List α) (hl:l.length≤1000000) (hby:by_≤10000) {R:Type} (k:List α→Option R):ygmy by_ l k = k l:=by
 have p1:l.length * by_≤10000000000:=Nat.le_trans (Nat.mul_le_mul hl hby) (by omega)
 unfold ygmy
 rw [decide_eq_true (show l.length * by_≤140737488355328 by omega),decide_eq_true (show l.length≤maxLen by unfold maxLen; omega)]
 rfl
theorem room1 {α:Type} (l:List α) (x:α) (by_:Nat) (hl:l.length≤1000000) (hby:by_≤10000):decide ((l.length + [x].length) * by_≤yazy) = true:=by
 have p1:(l.length + [x].length) * by_≤1000001 * 10000:=Nat.mul_le_mul (by simp; omega) hby
 exact decide_eq_true (by unfold yazy; omega)
end Go.Am
