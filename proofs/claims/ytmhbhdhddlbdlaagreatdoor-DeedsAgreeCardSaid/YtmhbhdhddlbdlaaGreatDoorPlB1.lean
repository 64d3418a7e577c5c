/- The plain law, in Lean alone: B1, B2, B3, B4, B5, B6, B7, B8, B9. No condition: lemmas for the claim. -/
import Derived.Test.YtmhbhdhddlbdlaaGreatDoorAmPrint
import Derived.KernelRfl
set_option linter.unusedVariables false
set_option linter.unusedSimpArgs false
set_option maxRecDepth 100000
namespace Go.Am
open Go
theorem yaFy {x:Int} (h1:-9223372036854775808≤x) (h2:x≤9223372036854775807):w64 x = x:=by
 unfold w64 IntKind.wrap
 simp [IntKind.bits,IntKind.signed]
 omega
theorem yayy {i:Nat} (h:i < 4611686018427387904):w64 ((i:Int) + 1) = ((i + 1:Nat):Int):=by
 rw [yaFy (by omega) (by omega)];omega
theorem yliy {i:Nat} (h:i < 4611686018427387904) (h0:0 < i):w64 ((i:Int) - 1) = ((i - 1:Nat):Int):=by
 rw [yaFy (by omega) (by omega)];omega
theorem yboy {α:Type} {l:List α} {i:Nat} {x:α} (h:l[i]? = some x) {R:Type} (k:α→Option R):at_ l (i:Int) k = k x:=by
 unfold at_;rw [Int.toNat_natCast,h]
theorem yxHy {α:Type} {l:List α} {i:Int} {x:α} (h:l[i.toNat]? = some x) {R:Type} (k:α→Option R):at_ l i k = k x:=by
 unfold at_;rw [h]
theorem yory {α:Type} {l:List α} {i:Nat} {x:α} (h:l[i]? = some x) {R:Type} (k:α→Option R):get_ l (i:Int) k = k x:=by
 unfold get_;rw [yboy h];simp
theorem ybMy {α:Type} {l:List α} {i:Nat} (h:i < l.length) {R:Type} (k:Option R):inr l (i:Int) k = k:=by
 unfold inr;rw [decide_eq_true (show 0≤(i:Int) by omega),decide_eq_true (show (i:Int) < (l.length:Int) by omega)];rfl
theorem ys1y {α:Type} {l:List α} {i:Int} (h:0≤i) (h2:i < (l.length:Int)) {R:Type} (k:Option R):inr l i k = k:=by
 unfold inr;rw [decide_eq_true h,decide_eq_true h2];rfl
theorem ygLy {α:Type} {l:List α} {i:Nat} {x:α}:set_ l (i:Int) x = l.set i x:=by unfold set_;rw [Int.toNat_natCast]
theorem yaty {α:Type} {l:List α} {i:Nat} {x:α} {xs:List α} (h:l.drop i = x::xs):l[i]? = some x∧i < l.length∧l.drop (i + 1) = xs∧l.length = i + 1 + xs.length:=by
 have h1:l[i]? = some x:=by
  have:=congrArg (fun t=>t[0]?) h
  simpa [List.getElem?_drop] using this
 have h2:i < l.length:=by
  rcases Nat.lt_or_ge i l.length with h2 | h2
  ·exact h2
  ·rw [List.getElem?_eq_none h2] at h1;cases h1
 have h3:=congrArg List.length h
 simp at h3
 refine ⟨h1,h2,?_,by omega⟩
 rw [← List.drop_drop,h];rfl
theorem yHSy {α:Type} {l:List α} {i:Nat} (h:l.drop i = []):l.length≤i:=by
 have:=congrArg List.length h
 simp at this;omega
theorem yaWy {α:Type} {l:List α} {i:Nat} {x:α} {xs:List α} (h:l.drop i = x::xs):decide ((i:Int) < (l.length:Int)) = true:=by
 have:=(yaty h).2.1;exact decide_eq_true (by omega)
theorem ya5y {α:Type} {l:List α} {i:Nat} (h:l.drop i = []):decide ((i:Int) < (l.length:Int)) = false:=by
 have:=yHSy h;exact decide_eq_false (by omega)
theorem ybay {α:Type} {l:List α} {i:Nat} {x:α} {xs:List α} (h:l.drop i = x::xs) {R:Type} (k:α→Option R):get_ l (i:Int) k = k x:=yory (yaty h).1 k
theorem ysVy {α:Type} {l:List α} {i:Nat} {x:α} {xs:List α} (h:l.drop i = x::xs) {R:Type} (k:α→Option R):at_ l (i:Int) k = k x:=yboy (yaty h).1 k
theorem yePy {α:Type} {l:List α} {i:Nat} {x:α} {xs:List α} (h:l.drop i = x::xs) {R:Type} (k:Option R):inr l (i:Int) k = k:=ybMy (yaty h).2.1 k
theorem yngy {α:Type} {l:List α} {i:Nat} {p:α} {xs:List α} (h:l.drop (i - 1) = p::xs) (h0:0 < i) (hl:l.length < 4611686018427387904) {R:Type} (k:α→Option R):get_ l (w64 ((i:Int) - 1)) k = k p:=by
 have:=(yaty h).2.1
 rw [yliy (by omega) h0];exact ybay h k
theorem ycpy {α:Type} {l:List α} {i:Nat} {x:α} {xs:List α} (h:l.drop i = x::xs):x∈l:=List.mem_of_getElem? (yaty h).1
end Go.Am
set_option linter.unusedVariables false
set_option linter.unusedSimpArgs false
set_option maxRecDepth 100000
namespace Go.Am
open Go
def yhDy {α:Type} (ne:α→α→Bool):Nat→List α→List α→Int→Int→{R:Type}→(Bool→Option R)→Option R→Option R
 | 0,_,_,_,_,_,_,_=>none
 | n + 1,v3,v4,v5,v6,_,e0,e1=>(bif (decide (v6 < v5)) then (get_ v3 v6 fun x9=>(get_ v4 v6 fun x10=>(bif (ne x9 x10) then e0 false else yhDy ne n v3 v4 v5 (w64 (v6 + 1)) e0 e1))) else e1)
def yrGy {α:Type} (N:Nat) (ne:α→α→Bool) (a b:List α) {R:Type} (k0:Bool→Option R):Option R :=
 (bif ((a.length:Int) != (b.length:Int)) then k0 false else (yhDy ne N a b (a.length:Int) 0 (fun e11=>k0 e11) (k0 true)))
theorem ypJy {α:Type} (ne:α→α→Bool) (l:List α) (hl:l.length < 4611686018427387904) (hne:∀ x,ne x x = false):∀ (xs:List α) (n i:Nat),l.drop i = xs→xs.length < n→∀ (R:Type) (e0:Bool→Option R) (e1:Option R),yhDy ne n l l (l.length:Int) (i:Int) e0 e1 = e1
 | _,0,_,_,h,_,_,_=>by omega
 | [],n + 1,i,h,_,_,_,_=>by rw [yhDy,ya5y h];rfl
 | x::xs,n + 1,i,h,hn,R,e0,e1=>by
  have h':=yaty h
  rw [yhDy,yaWy h]
  simp only [cond_true,ybay h,hne,cond_false]
  rw [yayy (by omega)]
  exact ypJy ne l hl hne xs n (i + 1) h'.2.2.1 (by simp at hn;omega) R e0 e1
theorem yzSy {α:Type} {N:Nat} {ne:α→α→Bool} {l:List α} (hN:l.length < N) (hN2:N≤4611686018427387904) (hne:∀ x,ne x x = false) {R:Type} (k:Bool→Option R):yrGy N ne l l k = k true:=by
 unfold yrGy
 have h:=ypJy ne l (by omega) hne l N 0 rfl hN R (fun e11=>k e11) (k true)
 simp only [bne_self_eq_false,cond_false]
 exact h
def idxI {α:Type} (p:α→Bool) (l:List α):Int:=match l.findIdx? p with | some i=>(i:Int) | none=>-1
theorem ytiy {α:Type} (p:α→Bool) (l:List α):decide (idxI p l ≥ 0) = l.any p:=by
 unfold idxI
 cases h:l.findIdx? p with
 | some i =>
  have:=List.findIdx?_isSome (xs:=l) (p:=p)
  rw [h] at this
  show decide ((i:Int) ≥ 0) = _
  rw [decide_eq_true (by omega)]
  simpa using this
 | none =>
  have:=List.findIdx?_isSome (xs:=l) (p:=p)
  rw [h] at this
  simp at this ⊢
  intro x hx
  exact this x hx
def yfWy {α β:Type} (eq:β→α→Bool):Nat→List α→β→Int→Int→{R:Type}→(Int→Option R)→Option R→Option R
 | 0,_,_,_,_,_,_,_=>none
 | n + 1,v3,v6,v4,v5,_,e0,e1=>(bif (decide (v5 < v4)) then (get_ v3 v5 fun x8=>(bif (eq v6 x8) then e0 v5 else yfWy eq n v3 v6 v4 (w64 (v5 + 1)) e0 e1)) else e1)
theorem ynAy {α β:Type} (eq:β→α→Bool) (v:β) (l:List α) (hl:l.length < 4611686018427387904):∀ (xs:List α) (n i:Nat),l.drop i = xs→xs.length < n→∀ (R:Type) (e0:Int→Option R) (e1:Option R),
  yfWy eq n l v (l.length:Int) (i:Int) e0 e1 = match xs.findIdx? (eq v) with | some j=>e0 ((i + j:Nat):Int) | none=>e1
 | _,0,_,_,h,_,_,_=>by omega
 | [],n + 1,i,h,_,_,_,_=>by rw [yfWy,ya5y h];rfl
 | x::xs,n + 1,i,h,hn,R,e0,e1=>by
  have h':=yaty h
  rw [yfWy,yaWy h]
  simp only [cond_true,ybay h,List.findIdx?_cons]
  cases hq:eq v x with
  | true=>simp
  | false =>
   simp only [cond_false]
   rw [yayy (by omega),ynAy eq v l hl xs n (i + 1) h'.2.2.1 (by simp at hn;omega) R e0 e1]
   cases xs.findIdx? (eq v) with
   | none=>rfl
   | some j=>simp;congr 1;omega
def yohy {α β:Type} (N:Nat) (eq:β→α→Bool) (a1:List α) (a2:β) {R:Type} (k0:Int→Option R):Option R:=(yfWy eq N a1 a2 (a1.length:Int) 0 (fun e9=>k0 e9) (k0 (-1)))
theorem yB1y {α β:Type} {N:Nat} (eq:β→α→Bool) (v:β) (l:List α) (hN:l.length < N) (hN2:N≤4611686018427387904) {R:Type} (k:Int→Option R) :
  yohy N eq l v k = k (idxI (eq v) l):=by
 unfold yohy
 have h:=ynAy eq v l (by omega) l N 0 rfl hN R (fun e9=>k e9) (k (-1))
 refine h.trans ?_
 unfold idxI
 cases l.findIdx? (eq v) with
 | none=>rfl
 | some j=>simp
def ygny {α σ:Type} (f:α→σ→{R:Type}→(Bool→σ→Option R)→Option R):Nat→List α→Int→Int→σ→{R:Type}→(Int→σ→Option R)→(σ→Option R)→Option R
 | 0,_,_,_,_,_,_,_=>none
 | n + 1,v3,v4,v5,v6,_,e0,e1=>(bif (decide (v5 < v4)) then (get_ v3 v5 fun x10=>(f x10 v6 (fun r11 r12=>(bif r11 then e0 v5 r12 else ygny f n v3 v4 (w64 (v5 + 1)) r12 e0 e1)))) else e1 v6)
theorem ynjy {α σ:Type} (f:α→σ→{R:Type}→(Bool→σ→Option R)→Option R) (p:α→Bool) (s:σ) (l:List α) (hf:∀ x∈l,∀ (R:Type) (k:Bool→σ→Option R),f x s k = k (p x) s) (hl:l.length < 4611686018427387904) :
  ∀ (xs:List α) (n i:Nat),l.drop i = xs→xs.length < n→∀ (R:Type) (e0:Int→σ→Option R) (e1:σ→Option R),
  ygny f n l (l.length:Int) (i:Int) s e0 e1 = match xs.findIdx? p with | some j=>e0 ((i + j:Nat):Int) s | none=>e1 s
 | _,0,_,_,h,_,_,_=>by omega
 | [],n + 1,i,h,_,_,_,_=>by rw [ygny,ya5y h];rfl
 | x::xs,n + 1,i,h,hn,R,e0,e1=>by
  have h':=yaty h
  rw [ygny,yaWy h]
  simp only [cond_true,ybay h,List.findIdx?_cons,hf x (ycpy h)]
  cases hq:p x with
  | true=>simp
  | false =>
   simp only [cond_false]
   rw [yayy (by omega),ynjy f p s l hf hl xs n (i + 1) h'.2.2.1 (by simp at hn;omega) R e0 e1]
   cases xs.findIdx? p with
   | none=>rfl
   | some j=>simp;congr 1;omega
def yily {α σ:Type} (N:Nat) (f:α→σ→{R:Type}→(Bool→σ→Option R)→Option R) (a1:List α) (a2:σ) {R:Type} (k0:Int→σ→Option R):Option R:=(ygny f N a1 (a1.length:Int) 0 a2 (fun e9 e10=>k0 e9 e10) (fun e=>k0 (-1) e))
theorem yrNy {α σ:Type} {N:Nat} (f:α→σ→{R:Type}→(Bool→σ→Option R)→Option R) (p:α→Bool) (s:σ) (l:List α) (hf:∀ x∈l,∀ (R:Type) (k:Bool→σ→Option R),f x s k = k (p x) s) (hN:l.length < N) (hN2:N≤4611686018427387904) {R:Type} (k:Int→σ→Option R) :
  yily N f l s k = k (idxI p l) s:=by
 unfold yily
 have h:=ynjy f p s l hf (by omega) l N 0 rfl hN R (fun e9 e10=>k e9 e10) (fun e=>k (-1) e)
 refine h.trans ?_
 unfold idxI
 cases l.findIdx? p with
 | none=>rfl
 | some j=>simp
def ykOy {α:Type} (cmp:CmpT α):Nat→Int→Int→Int→Int→List α→{R:Type}→(Int→Int→Int→List α→Option R)→Option R
 | 0,_,_,_,_,_,_,_=>none
 | n + 1,v31,v32,v33,v34,v35,_,e0=>(bif (decide (v34 > v31)) then (inr v35 v34 (at_ v35 v34 fun x43=>(inr v35 (w64 (v34 - 1)) (at_ v35 (w64 (v34 - 1)) fun x44=>(cmp x43 x44 (fun r45=>(bif (decide (r45 < 0)) then (inr v35 (w64 (v34 - 1)) (at_ v35 (w64 (v34 - 1)) fun x46=>(inr v35 v34 (at_ v35 v34 fun x47=>(inr v35 v34 (at_ v35 v34 fun x48=>(inr (set_ v35 v34 x46) (w64 (v34 - 1)) (at_ (set_ v35 v34 x46) (w64 (v34 - 1)) fun x49=>ykOy cmp n v31 v32 v33 (w64 (v34 - 1)) (set_ (set_ v35 v34 x46) (w64 (v34 - 1)) x47) e0)))))))) else e0 v31 v32 v33 v35))))))) else e0 v31 v32 v33 v35)
def ygAy {α:Type} (N:Nat) (cmp:CmpT α):Nat→Int→Int→Int→List α→{R:Type}→(List α→Option R)→Option R
 | 0,_,_,_,_,_,_=>none
 | n + 1,v4,v5,v6,v7,_,e0=>(bif (decide (v6 < v5)) then (ykOy cmp N v4 v5 v6 v6 v7 (fun e50 e51 e52 e53=>ygAy N cmp n e50 e51 (w64 (e52 + 1)) e53 e0)) else e0 v7)
def sIns {α:Type} (N:Nat) (cmp:CmpT α) (a1:List α) (a2 a3:Int) {R:Type} (k0:List α→Option R):Option R :=
 (ygAy N cmp N a2 a3 (w64 (a2 + 1)) a1 (fun e54=>k0 e54))
def ygfy {α:Type} (c:α→α→Int) (x:α):List α→List α
 | []=>[x]
 | y::ys=>if c x y < 0 then y::ygfy c x ys else x::y::ys
def ye3y {α:Type} (c:α→α→Int):List α→List α→List α
 | acc,[]=>acc
 | acc,x::xs=>ye3y c (ygfy c x acc) xs
def sortI {α:Type} (c:α→α→Int) (l:List α):List α:=(ye3y c [] l).reverse
theorem yg0y {α:Type} (c:α→α→Int) (x:α):∀ l:List α,(ygfy c x l).Perm (x::l)
 | []=>.refl _
 | y::ys=>by
  unfold ygfy
  split
  ·exact ((yg0y c x ys).cons y).trans (List.Perm.swap x y ys)
  ·exact .refl _
theorem ymLy {α:Type} (c:α→α→Int):∀ (l acc:List α),(ye3y c acc l).Perm (acc++l)
 | [],acc=>by simp [ye3y]
 | x::xs,acc=>by
  unfold ye3y
  refine (ymLy c xs _).trans ?_
  refine ((yg0y c x acc).append_right xs).trans ?_
  exact (List.perm_middle (l₁:=acc) (l₂:=xs) (a:=x)).symm
theorem yr1y {α:Type} (c:α→α→Int) (l:List α):(sortI c l).Perm l:=by
 unfold sortI
 exact (List.reverse_perm _).trans (by simpa using ymLy c l [])
theorem yvhy {α:Type} (c:α→α→Int) (l:List α):(sortI c l).length = l.length:=(yr1y c l).length_eq
theorem yEyy {α:Type} {c:α→α→Int} {l:List α} {x:α}:x∈sortI c l ↔ x∈l:=(yr1y c l).mem_iff
theorem ygsy {α:Type} (pre:List α) (a b:α) (post:List α):(pre++a::post).set pre.length b = pre++b::post:=by
 induction pre with
 | nil=>rfl
 | cons x xs ih=>simp [ih]
theorem yfay {α:Type} (pre:List α) (a:α) (post:List α):(pre++a::post)[pre.length]? = some a:=by simp
theorem yqOy {α:Type} (cmp:CmpT α) (c:α→α→Int) (S:α→Prop) (hc:∀ x y,S x→S y→∀ (R:Type) (k:Int→Option R),cmp x y k = k (c x y)) (x:α) (hx:S x) (b i:Int) :
  ∀ (rs post:List α) (n:Nat),(∀ y∈rs,S y)→rs.length < n→rs.length + post.length < 4611686018427387000→∀ (R:Type) (e0:Int→Int→Int→List α→Option R),
  ykOy cmp n 0 b i (rs.length:Int) (rs.reverse++x::post) e0 = e0 0 b i ((ygfy c x rs).reverse++post)
 | _,_,0,_,h,_,_,_=>by omega
 | [],post,n + 1,_,_,_,R,e0=>by rw [ykOy];simp [ygfy]
 | y::ys,post,n + 1,hS,hn,hl,R,e0=>by
  have hy:S y:=hS y (by simp)
  have e1:w64 (((y::ys).length:Nat) - 1:Int) = (ys.length:Int):=by
   rw [yaFy (by omega) (by simp at hl ⊢;omega)];simp
  have hd:(y::ys).reverse++x::post = ys.reverse++y::x::post:=by simp
  have g1:(ys.reverse++y::x::post)[ys.length]? = some y:=by
   have:=yfay ys.reverse y (x::post);rwa [List.length_reverse] at this
  have hd2:ys.reverse++y::x::post = (ys.reverse++[y])++x::post:=by simp
  have g2:(ys.reverse++y::x::post)[ys.length + 1]? = some x:=by
   have:=yfay (ys.reverse++[y]) x post
   rw [← hd2] at this;rwa [List.length_append,List.length_reverse] at this
  have len1:(ys.reverse++y::x::post).length = ys.length + 2 + post.length:=by simp;omega
  have s1:(ys.reverse++y::x::post).set (ys.length + 1) y = ys.reverse++y::y::post:=by
   have:=ygsy (ys.reverse++[y]) x y post
   rw [← hd2] at this
   rw [List.length_append,List.length_reverse] at this
   refine Eq.trans this ?_
   simp
  have s2:(ys.reverse++y::y::post).set ys.length x = ys.reverse++x::y::post:=by
   have:=ygsy ys.reverse y x (y::post);rwa [List.length_reverse] at this
  have g3:(ys.reverse++y::y::post)[ys.length]? = some y:=by
   have:=yfay ys.reverse y (y::post);rwa [List.length_reverse] at this
  have c1:(((y::ys).length:Nat):Int) = ((ys.length + 1:Nat):Int):=by simp
  rw [ykOy]
  rw [decide_eq_true (show (((y::ys).length:Nat):Int) > 0 by simp)]
  simp only [cond_true,hd,e1]
  rw [c1]
  rw [ybMy (by omega),yboy g2,ybMy (by omega),yboy g1,hc x y hx hy]
  unfold ygfy
  by_cases hlt:c x y < 0
  ·rw [decide_eq_true hlt,if_pos hlt]
   simp only [cond_true]
   rw [ybMy (by omega),yboy g1,ybMy (by omega),yboy g2,ybMy (by omega),yboy g2,ygLy,s1,ybMy (by simp),yboy g3,ygLy,s2]
   rw [yqOy cmp c S hc x hx b i ys (y::post) n (fun z hz=>hS z (by simp [hz])) (by simp at hn;omega) (by simp at hl ⊢;omega) R e0]
   simp
  ·rw [decide_eq_false hlt,if_neg hlt]
   simp
theorem yq6y {α:Type} (N:Nat) (cmp:CmpT α) (c:α→α→Int) (S:α→Prop) (hc:∀ x y,S x→S y→∀ (R:Type) (k:Int→Option R),cmp x y k = k (c x y)) (len:Nat) (hlen:len < 4611686018427380000) (hN:len < N) :
  ∀ (rest acc:List α) (n:Nat),(∀ y∈acc,S y)→(∀ y∈rest,S y)→acc.length + rest.length = len→rest.length < n→∀ (R:Type) (e0:List α→Option R),
  ygAy N cmp n 0 (len:Int) (acc.length:Int) (acc.reverse++rest) e0 = e0 (ye3y c acc rest).reverse
 | _,_,0,_,_,_,h,_,_=>by omega
 | [],acc,n + 1,_,_,hl,_,R,e0=>by
  rw [ygAy,decide_eq_false (by simp at hl;omega)]
  simp [ye3y]
 | x::xs,acc,n + 1,hS,hS2,hl,hn,R,e0=>by
  have hx:S x:=hS2 x (by simp)
  have hlx:(ygfy c x acc).length = acc.length + 1:=by rw [(yg0y c x acc).length_eq];simp
  rw [ygAy,decide_eq_true (by simp at hl;omega)]
  simp only [cond_true]
  rw [yqOy cmp c S hc x hx (len:Int) (acc.length:Int) acc xs N hS (by simp at hl;omega) (by simp at hl;omega),yayy (by omega),← hlx]
  rw [yq6y N cmp c S hc len hlen hN xs (ygfy c x acc) n (fun y hy=>by
   rcases List.mem_cons.1 ((yg0y c x acc).mem_iff.1 hy) with rfl | hy
   ·exact hx
   ·exact hS y hy) (fun y hy=>hS2 y (by simp [hy])) (by simp at hl ⊢;omega) (by simp at hn;omega) R e0]
  rfl
theorem yA6y {α:Type} {N:Nat} {cmp:CmpT α} (c:α→α→Int) (S:α→Prop) (hc:∀ x y,S x→S y→∀ (R:Type) (k:Int→Option R),cmp x y k = k (c x y)) (l:List α) (hS:∀ y∈l,S y) (hN:l.length + 1 < N) (hN2:N≤4611686018427380000) {R:Type} (k:List α→Option R) :
  sIns N cmp l 0 (l.length:Int) k = k (sortI c l):=by
 unfold sIns
 rw [yaFy (by omega) (by omega)]
 cases l with
 | nil =>
  obtain ⟨m,rfl⟩:∃ m,N = m + 1:=⟨N - 1,by omega⟩
  rw [ygAy];simp [sortI,ye3y]
 | cons x xs =>
  have h:=yq6y N cmp c S hc (x::xs).length (by omega) (by omega) xs [x] N (by simpa using hS x (by simp)) (fun y hy=>hS y (by simp [hy])) (by simp;omega) (by simp at hN;omega) R (fun e54=>k e54)
  simp only [List.length_singleton,List.reverse_singleton,List.singleton_append] at h
  exact h
theorem yHty {α:Type} {N:Nat} {cmp:CmpT α} (l:List α) (a:Int) (h1:-1000000≤a) (h2:a≤1000000000) (hN:0 < N) {R:Type} (k:List α→Option R):sIns N cmp l a a k = k l:=by
 unfold sIns
 obtain ⟨m,rfl⟩:∃ m,N = m + 1:=⟨N - 1,by omega⟩
 rw [yaFy (by omega) (by omega),ygAy,decide_eq_false (by omega)]
 rfl
end Go.Am
set_option linter.unusedVariables false
set_option linter.unusedSimpArgs false
set_option maxRecDepth 100000
namespace Go.Am
open Go
def yijy {α:Type} (ins:List α→Int→Int→{R:Type}→(List α→Option R)→Option R):Nat→Int→Int→Int→Int→List α→{R:Type}→(Int→Int→Int→List α→Option R)→Option R
 | 0,_,_,_,_,_,_,_=>none
 | n + 1,v3,v4,v5,v6,v7,_,e0=>(bif (decide (v6≤v3)) then (ins v7 v5 v6 (fun r9=>yijy ins n v3 v4 v6 (w64 (v6 + v4)) r9 e0)) else e0 v3 v4 v5 v7)
theorem yB4y {α:Type} {N M:Nat} {cmp:CmpT α} (c:α→α→Int) (S:α→Prop) (hc:∀ x y,S x→S y→∀ (R:Type) (k:Int→Option R),cmp x y k = k (c x y)) (l:List α) (hS:∀ y∈l,S y) (hl:l.length≤20) (hN:1000≤N) (hN2:N≤4611686018427380000) {R:Type} (e0:Int→Int→Int→List α→Option R)
  (ins:List α→Int→Int→{R:Type}→(List α→Option R)→Option R) (hi:∀ l a b (R:Type) (k:List α→Option R),ins l a b k = sIns N cmp l a b k) :
  (yijy ins (M + 3) (l.length:Int) 20 0 20 l e0 = if l.length = 20 then e0 (l.length:Int) 20 20 (sortI c l) else e0 (l.length:Int) 20 0 l):=by
 rw [yijy]
 by_cases h:l.length = 20
 ·rw [decide_eq_true (by omega),if_pos h]
  simp only [cond_true,hi]
  have h20:(20:Int) = (l.length:Int):=by omega
  have e1:=yA6y (N:=N) c S hc l hS (by omega) hN2 (fun r9=>yijy ins (M + 2) (l.length:Int) 20 20 (w64 (20 + 20)) r9 e0)
  rw [← h20] at e1
  rw [← h20,e1,yijy,yaFy (by omega) (by omega),decide_eq_false (by omega)]
  rfl
 ·rw [decide_eq_false (by omega),if_neg h]
  rfl
def yIKy {α:Type}:Nat→Int→Int→Int→Int→List α→{R:Type}→(Int→Int→Int→List α→Option R)→Option R
 | 0,_,_,_,_,_,_,_=>none
 | n + 1,v30,v31,v32,v33,v34,_,e0=>(bif (decide (v33≤v30)) then none else e0 v30 v31 v32 v34)
def yoOy {α:Type} (N:Nat):Nat→Int→Int→List α→{R:Type}→(List α→Option R)→Option R
 | 0,_,_,_,_,_=>none
 | n + 1,v15,v16,v17,_,e0=>(bif (decide (v16 < v15)) then (yIKy N v15 v16 0 (w64 (2 * v16)) v17 (fun e37 e38 e39 e40=>(bif (decide ((w64 (e39 + e38)) < e37)) then none else yoOy N n e37 (w64 (e38 * 2)) e40 e0))) else e0 v17)
def sSta {α:Type} (N:Nat) (ins:List α→Int→Int→{R:Type}→(List α→Option R)→Option R) (a1:List α) (a2:Int) {R:Type} (k0:List α→Option R):Option R :=
 (yijy ins N a2 20 0 20 a1 (fun e10 e11 e12 e13=>(ins e13 e12 e10 (fun r14=>(yoOy N N e10 e11 r14 (fun e42=>k0 e42))))))
theorem yLPy {α:Type} {N:Nat} {cmp:CmpT α} (c:α→α→Int) (S:α→Prop) (hc:∀ x y,S x→S y→∀ (R:Type) (k:Int→Option R),cmp x y k = k (c x y)) (l:List α) (hS:∀ y∈l,S y) (hl:l.length≤20) (hN:1000≤N) (hN2:N≤4611686018427380000) (ins:List α→Int→Int→{R:Type}→(List α→Option R)→Option R) (hi:∀ l a b (R:Type) (k:List α→Option R),ins l a b k = sIns N cmp l a b k) {R:Type} (k:List α→Option R) :
  sSta N ins l (l.length:Int) k = k (sortI c l):=by
 obtain ⟨m,rfl⟩:∃ m,N = m + 3:=⟨N - 3,by omega⟩
 unfold sSta
 rw [yB4y (N:=m + 3) c S hc l hS hl hN hN2 _ ins hi]
 simp only [hi]
 have h7:∀ r:List α,yoOy (m + 3) (m + 3) (l.length:Int) 20 r k = k r:=fun r=>by
  rw [yoOy,decide_eq_false (by omega)];rfl
 split
 ·rename_i h
  have h20:(l.length:Int) = 20:=by omega
  rw [h20] at h7 ⊢
  rw [yHty _ _ (by omega) (by omega) (by omega)]
  exact h7 _
 ·rw [yA6y c S hc l hS (by omega) hN2]
  exact h7 _
def ycBy {α:Type} (eq:α→α→Bool):α→List α→List α
 | _,[]=>[]
 | p,y::ys=>if eq y p then ycBy eq y ys else y::ycBy eq y ys
def ylgy {α:Type} (eq:α→α→Bool):List α→List α
 | []=>[]
 | x::xs=>x::ycBy eq x xs
theorem yhMy {α:Type} (eq:α→α→Bool):∀ (l:List α) (p x:α),x∈ycBy eq p l→x∈l
 | [],_,_,h=>by cases h
 | y::ys,p,x,h=>by
  unfold ycBy at h
  split at h
  ·exact List.mem_cons_of_mem _ (yhMy eq ys y x h)
  ·rcases List.mem_cons.1 h with rfl | h
   ·exact List.mem_cons_self
   ·exact List.mem_cons_of_mem _ (yhMy eq ys y x h)
theorem yv7y {α:Type} {eq:α→α→Bool} {l:List α} {x:α} (h:x∈ylgy eq l):x∈l:=by
 cases l with
 | nil=>cases h
 | cons y ys =>
  rcases List.mem_cons.1 h with rfl | h
  ·exact List.mem_cons_self
  ·exact List.mem_cons_of_mem _ (yhMy eq ys y x h)
def ytvy {α:Type}:Nat→List (List α)→Int→List (List α)→Int→Int→{R:Type}→(List (List α)→Int→Option R)→Option R
 | 0,_,_,_,_,_,_,_=>none
 | n + 1,v2,v3,v4,v5,v6,_,e0=>(bif (decide (v6 < v5)) then (get_ v4 v6 fun x8=>(bif (decide ((w64 (v3 + (x8.length:Int))) < 0)) then none else ytvy n v2 (w64 (v3 + (x8.length:Int))) v4 v5 (w64 (v6 + 1)) e0)) else e0 v2 v3)
def yqny {α:Type} (by_:Nat):Nat→List (List α)→Int→Int→List α→{R:Type}→(List α→Option R)→Option R
 | 0,_,_,_,_,_,_=>none
 | n + 1,v12,v13,v14,v15,_,e0=>(bif (decide (v14 < v13)) then (get_ v12 v14 fun x17=>(bif (decide ((v15.length + x17.length) * by_≤yady)) then yqny by_ n v12 v13 (w64 (v14 + 1)) (v15++x17) e0 else none)) else e0 v15)
def sCat {α:Type} (N by_:Nat) (gr:Int→{R:Type}→(List α→Option R)→Option R) (a1:List (List α)) {R:Type} (k0:List α→Option R):Option R :=
 (ytvy N a1 0 a1 (a1.length:Int) 0 (fun e9 e10=>(gr e10 (fun r11=>(yqny by_ N e9 (e9.length:Int) 0 r11 (fun e18=>k0 e18))))))
theorem yHEy {α:Type} {N by_:Nat} (a b:List α) (ha:a.length≤100000) (hb:b.length≤100000) (hby:by_≤10000) (hN:10≤N) {R:Type} (k:List α→Option R):sCat N by_ (yhsy by_) [a,b] k = k (a++b):=by
 obtain ⟨m,rfl⟩:∃ m,N = m + 4:=⟨N - 4,by omega⟩
 have p1:(a.length + b.length) * by_≤2000000000:=Nat.le_trans (Nat.mul_le_mul (show a.length + b.length≤200000 by omega) hby) (by omega)
 have p2:a.length * by_≤2000000000:=Nat.le_trans (Nat.mul_le_mul (show a.length≤200000 by omega) hby) (by omega)
 have e1:w64 (0 + (a.length:Int)) = (a.length:Int):=by rw [yaFy (by omega) (by omega)];omega
 have e2:w64 ((a.length:Int) + (b.length:Int)) = ((a.length + b.length:Nat):Int):=by rw [yaFy (by omega) (by omega)];omega
 have e3:w64 (0 + 1) = ((1:Nat):Int):=by rw [yaFy (by omega) (by omega)];rfl
 have e4:w64 (((1:Nat):Int) + 1) = ((2:Nat):Int):=by rw [yaFy (by omega) (by omega)];rfl
 have g0:∀ {R:Type} (k:List α→Option R),get_ [a,b] 0 k = k a:=fun k=>yory (i:=0) rfl k
 have g1:∀ {R:Type} (k:List α→Option R),get_ [a,b] ((1:Nat):Int) k = k b:=fun k=>yory (i:=1) rfl k
 unfold sCat
 simp only [ytvy,yqny,g0,g1,e1,e2,e3,e4]
 have l2:(([a,b]:List (List α)).length:Int) = 2:=rfl
 have d0:decide ((a.length:Int) < 0) = false:=decide_eq_false (by omega)
 have d1:decide (((a.length + b.length:Nat):Int) < 0) = false:=decide_eq_false (by omega)
 have d2:decide ((0:Int) < 2) = true:=rfl
 have d3:decide (((1:Nat):Int) < 2) = true:=rfl
 have d4:decide (((2:Nat):Int) < 2) = false:=rfl
 rw [l2,d2,d3,d4,d0,d1]
 simp only [cond_true,cond_false,yhsy]
 rw [show (decide (0≤((a.length + b.length:Nat):Int))&&(decide (((a.length + b.length:Nat):Int).toNat * by_≤140737488355328)&&decide (((a.length + b.length:Nat):Int)≤4611686018427387904))) = true by
  rw [Int.toNat_natCast];simp;omega]
 simp only [cond_true,List.length_nil,List.nil_append,Nat.zero_add,l2]
 rw [decide_eq_true (show a.length * by_≤yady by unfold yady;omega),decide_eq_true (show (a.length + b.length) * by_≤yady by unfold yady;omega)]
 rfl
theorem room1 {α:Type} (l:List α) (x:α) (by_:Nat) (hl:l.length≤1000000) (hby:by_≤10000):decide ((l.length + [x].length) * by_≤yady) = true:=by
 have p1:(l.length + [x].length) * by_≤1000001 * 10000:=Nat.mul_le_mul (by simp;omega) hby
 exact decide_eq_true (by unfold yady;omega)
end Go.Am
set_option linter.unusedVariables false
set_option linter.unusedSimpArgs false
set_option maxRecDepth 100000
namespace Go.Am
open Go
def sgn (x:Int):Int:=bif decide (x < 0) then -1 else bif decide (x > 0) then 1 else 0
def cmpI (a b:Int):Int:=bif decide (a < b) then -1 else bif decide (a > b) then 1 else 0
def orL:List Int→Int
 | []=>0
 | x::xs=>bif x != 0 then x else orL xs
structure Ords {α:Type} (c:α→α→Int):Prop where
 anti:∀ x y,c y x = - c x y
 trans:∀ x y z,c x y≤0→c y z≤0→c x z≤0
theorem Ords.pre {α:Type} {c:α→α→Int} (h:Ords c) (S:α→Prop):Pre c S :=
 ⟨fun x y _ _=>by have:=h.anti x y;omega,fun x y z _ _ _=>h.trans x y z,fun x y _ _=>by have:=h.anti x y;omega⟩
theorem Ords.refl {α:Type} {c:α→α→Int} (h:Ords c) (x:α):c x x = 0:=by have:=h.anti x x;omega
theorem Ords.on {α β:Type} {c:α→α→Int} (h:Ords c) (f:β→α):Ords (fun x y=>c (f x) (f y)) :=
 ⟨fun x y=>h.anti _ _,fun x y z=>h.trans _ _ _⟩
theorem Ords.nil {α:Type}:Ords (fun (x y:α)=>orL []):=⟨fun _ _=>by simp [orL],fun _ _ _ _ _=>by simp [orL]⟩
theorem Ords.lex {α:Type} {c:α→α→Int} {l:α→α→List Int} (h:Ords c) (h2:Ords (fun x y=>orL (l x y))):Ords (fun x y=>orL (c x y::l x y)):=by
 refine ⟨fun x y=>?_,fun x y z=>?_⟩
 ·have a1:=h.anti x y
  have a2:=h2.anti x y
  simp only [orL]
  by_cases e:c x y = 0
  ·have e2:c y x = 0:=by omega
   simp only [e,e2,bne_self_eq_false,cond_false];exact a2
  ·have e2:c y x≠0:=by omega
   have f1:(c x y != 0) = true:=by simpa using e
   have f2:(c y x != 0) = true:=by simpa using e2
   simp only [f1,f2,cond_true];exact a1
 ·have a1:=h.anti x y
  have a2:=h.anti y z
  have a3:=h.anti x z
  have t1:=h.trans x y z
  have t2:=h.trans z x y
  have t3:=h.trans y z x
  have s:=h2.trans x y z
  have q:∀ a b:Int,(bif a != 0 then a else b) = if a = 0 then b else a:=fun a b=>by
   by_cases e:a = 0
   ·simp [e]
   ·have:(a != 0) = true:=by simpa using e
    rw [this,if_neg e];rfl
  simp only [orL,q]
  intro h3 h4
  split at h3 <;> split at h4 <;> split <;> omega
theorem yt2y:Ords cmpI:=by
 have v:∀ a b:Int,(a < b∧cmpI a b = -1) ∨ (a = b∧cmpI a b = 0) ∨ (b < a∧cmpI a b = 1):=fun a b=>by
  unfold cmpI
  by_cases h1:a < b
  ·exact .inl ⟨h1,by simp [h1]⟩
  ·by_cases h2:a > b
   ·exact .inr (.inr ⟨h2,by simp [h1,h2]⟩)
   ·exact .inr (.inl ⟨by omega,by simp [h1,h2]⟩)
 refine ⟨fun x y=>?_,fun x y z=>?_⟩
 ·rcases v x y with ⟨h1,h2⟩ | ⟨h1,h2⟩ | ⟨h1,h2⟩ <;> rcases v y x with ⟨h3,h4⟩ | ⟨h3,h4⟩ | ⟨h3,h4⟩ <;> omega
 ·rcases v x y with ⟨h1,h2⟩ | ⟨h1,h2⟩ | ⟨h1,h2⟩ <;> rcases v y z with ⟨h3,h4⟩ | ⟨h3,h4⟩ | ⟨h3,h4⟩ <;> rcases v x z with ⟨h5,h6⟩ | ⟨h5,h6⟩ | ⟨h5,h6⟩ <;> omega
theorem ynmy {a b:Int}:cmpI a b = 0 ↔ a = b:=by
 unfold cmpI
 by_cases h1:a < b
 ·simp [h1];omega
 ·by_cases h2:a > b
  ·simp [h1,h2];omega
  ·simp [h1,h2];omega
theorem yAny:∀ l:List UInt8,Lib.compareBytes l l = 0
 | []=>rfl
 | x::xs=>by unfold Lib.compareBytes;simp [yAny xs]
theorem u8 {x y:UInt8} (h1:¬ x < y) (h2:¬ y < x):x = y:=by
 have e1:¬ x.toNat < y.toNat:=by simpa [UInt8.lt_iff_toNat_lt] using h1
 have e2:¬ y.toNat < x.toNat:=by simpa [UInt8.lt_iff_toNat_lt] using h2
 exact UInt8.toNat_inj.1 (by omega)
theorem yBuy:∀ a b:List UInt8,Lib.compareBytes a b = 0→a = b
 | [],[],_=>rfl
 | [],_::_,h=>by simp [Lib.compareBytes] at h
 | _::_,[],h=>by simp [Lib.compareBytes] at h
 | x::xs,y::ys,h=>by
  unfold Lib.compareBytes at h
  split at h
  ·cases h
  ·split at h
   ·cases h
   ·rename_i h1 h2
    rw [u8 h1 h2,yBuy xs ys h]
theorem yBAy:∀ a b:List UInt8,Lib.compareBytes b a = - Lib.compareBytes a b
 | [],[]=>rfl
 | [],_::_=>by simp [Lib.compareBytes]
 | _::_,[]=>by simp [Lib.compareBytes]
 | x::xs,y::ys=>by
  unfold Lib.compareBytes
  by_cases h1:x < y
  ·have h2:¬ y < x:=by
    intro h
    have a:=UInt8.lt_iff_toNat_lt.1 h1
    have b:=UInt8.lt_iff_toNat_lt.1 h
    omega
   simp [h1,h2]
  ·by_cases h2:y < x
   ·simp [h1,h2]
   ·simp only [h1,h2,if_false]
    exact yBAy xs ys
theorem ywGy:∀ a b c:List UInt8,Lib.compareBytes a b≤0→Lib.compareBytes b c≤0→Lib.compareBytes a c≤0
 | [],_,[],_,_=>by simp [Lib.compareBytes]
 | [],_,_::_,_,_=>by simp [Lib.compareBytes]
 | x::xs,[],_,h,_=>by simp [Lib.compareBytes] at h
 | x::xs,y::ys,[],_,h=>by simp [Lib.compareBytes] at h
 | x::xs,y::ys,z::zs,h1,h2=>by
  unfold Lib.compareBytes at h1 h2 ⊢
  have ll:=@UInt8.lt_iff_toNat_lt
  by_cases a1:x < y
  ·by_cases b1:y < z
   ·have:x < z:=by rw [ll] at *;omega
    simp [this]
   ·by_cases b2:z < y
    ·simp [b1,b2] at h2
    ·have:x < z:=by rw [ll] at *;omega
     simp [this]
  ·by_cases a2:y < x
   ·simp [a1,a2] at h1
   ·simp only [a1,a2,if_false] at h1
    by_cases b1:y < z
    ·have:x < z:=by rw [ll] at *;omega
     simp [this]
    ·by_cases b2:z < y
     ·simp [b1,b2] at h2
     ·simp only [b1,b2,if_false] at h2
      have c1:¬ x < z:=by rw [ll] at *;omega
      have c2:¬ z < x:=by rw [ll] at *;omega
      simp only [c1,c2,if_false]
      exact ywGy xs ys zs h1 h2
theorem yIry:Ords Lib.compareBytes:=⟨fun x y=>yBAy x y,ywGy⟩
theorem yBgy {a b:Int} (h1:-4398046511104≤a∧a≤4398046511104) (h2:-4398046511104≤b∧b≤4398046511104):sgn (w64 (a - b)) = cmpI a b:=by
 rw [yaFy (by omega) (by omega)]
 unfold sgn cmpI
 by_cases h1:a < b
 ·have:a - b < 0:=by omega
  simp [h1,this]
 ·have g1:¬ a - b < 0:=by omega
  by_cases h2:a > b
  ·have:a - b > 0:=by omega
   simp [h1,h2,g1,this]
  ·have:¬ a - b > 0:=by omega
   simp [h1,h2,g1,this]
theorem yLey (a b:Int):(a != b) = (cmpI a b != 0):=by
 rw [Bool.eq_iff_iff];simp [ynmy]
theorem ysvy {a b:List UInt8}:Lib.compareBytes a b = 0 ↔ a = b:=⟨yBuy a b,fun h=>by rw [h];exact yAny b⟩
theorem ne_cb (a b:List UInt8):(!(a == b)) = (Lib.compareBytes a b != 0):=by
 rw [Bool.eq_iff_iff];simp [ysvy]
theorem yF7y {l:List Int}:orL l = 0 ↔ ∀ x∈l,x = 0:=by
 induction l with
 | nil=>simp [orL]
 | cons x xs ih =>
  unfold orL
  by_cases h:x = 0
  ·simp [h,ih]
  ·have:(x != 0) = true:=by simpa using h
   rw [this];simp [h]
def aget {K V:Type} (eq:K→K→Bool) (x:K):List (K×V)→Option V
 | []=>none
 | p::ps=>bif eq x p.1 then some p.2 else aget eq x ps
def aset {K V:Type} (eq:K→K→Bool) (x:K) (y:V):List (K×V)→List (K×V)
 | []=>[(x,y)]
 | p::ps=>bif eq x p.1 then (x,y)::ps else p::aset eq x y ps
theorem yhwy {K V:Type} {eq:K→K→Bool} (h:∀ x y,eq x y = true ↔ x = y) (w x:K) (y:V):∀ m:List (K×V),aget eq w (aset eq x y m) = bif eq w x then some y else aget eq w m
 | []=>by simp [aset,aget]
 | p::ps=>by
  unfold aset
  cases hx:eq x p.1 with
  | true =>
   have:=(h x p.1).1 hx
   simp only [cond_true,aget]
   rw [← this]
   cases eq w x <;> rfl
  | false =>
   simp only [cond_false,aget]
   rw [yhwy h w x y ps]
   cases hw:eq w p.1 with
   | true =>
    have e:=(h w p.1).1 hw
    have:eq w x = false:=by
     cases hq:eq w x with
     | false=>rfl
     | true =>
      have e2:=(h w x).1 hq
      rw [← e,← e2,(h w w).2 rfl] at hx
      cases hx
    rw [this];rfl
   | false=>rfl
variable {A:Nat→Type}
theorem yeVy {S:Spec A} (h:yaCy S) {args:List (IV A)} {ys0:List (IV A)} {F:{R:Type}→(Bool→Option R)→Option R} (hF:∀ (R:Type) (k:IV A→List (IV A)→Option R),S args k = F (fun b=>k (.d (.bool b)) ys0)) {b:Bool} (hb:F some = some b) (R:Type) (k:Bool→Option R):F k = k b:=by
 let f:(R:Type)→(Bool→Option R)→IV A→List (IV A)→Option R:=fun R k r _=>match r with | .d (.bool b)=>k b | _=>none
 have h1:=(hF R (f R k)).symm.trans (h args R (f R k))
 have h2:=(hF Bool (f Bool some)).symm.trans (h args Bool (f Bool some))
 have h3:F (fun b=>f R k (.d (.bool b)) ys0) = F k:=rfl
 have h4:F (fun b=>f Bool some (.d (.bool b)) ys0) = F some:=rfl
 rw [h3] at h1
 rw [h4,hb] at h2
 rw [h1]
 cases ht:S args (fun r ys=>some (r,ys)) with
 | none=>rw [ht] at h2;cases h2
 | some p =>
  obtain ⟨v,ys⟩:=p
  rw [ht] at h2
  simp only [Option.bind_some] at h2 ⊢
  unfold f at h2 ⊢
  split at h2
  ·cases h2;rfl
  ·cases h2
end Go.Am
set_option linter.unusedVariables false
set_option linter.unusedSimpArgs false
set_option maxRecDepth 100000
namespace Go.Am
open Go
end Go.Am
set_option linter.unusedVariables false
set_option linter.unusedSimpArgs false
set_option maxRecDepth 100000
namespace Go.Am
open Go
end Go.Am
set_option linter.unusedVariables false
set_option linter.unusedSectionVars false
set_option linter.unusedSimpArgs false
namespace Go.Am
open Go
theorem yq2y {α:Type} {c:α→α→Int} (h:Ords c):∀ {xs ys:List α},xs.Pairwise (fun a b=>c a b < 0)→ys.Pairwise (fun a b=>c a b < 0)→(∀ x,x∈xs ↔ x∈ys)→xs = ys
 | [],[],_,_,_=>rfl
 | [],y::ys,_,_,hm=>by have:=(hm y).2 (by simp);cases this
 | x::xs,[],_,_,hm=>by have:=(hm x).1 (by simp);cases this
 | x::xs,y::ys,h1,h2,hm=>by
  have p1:=List.pairwise_cons.1 h1
  have p2:=List.pairwise_cons.1 h2
  have self:∀ z,¬ c z z < 0:=fun z=>by have:=h.refl z;omega
  have e:x = y:=by
   rcases List.mem_cons.1 ((hm x).1 (by simp)) with hx | hx
   ·exact hx
   ·rcases List.mem_cons.1 ((hm y).2 (by simp)) with hy | hy
    ·exact hy.symm
    ·have a:=p2.1 x hx
     have b:=p1.1 y hy
     have:=h.anti x y
     omega
  subst e
  rw [yq2y h p1.2 p2.2 fun z=>?_]
  constructor
  ·intro hz
   rcases List.mem_cons.1 ((hm z).1 (by simp [hz])) with rfl | hz2
   ·exact absurd (p1.1 z hz) (self z)
   ·exact hz2
  ·intro hz
   rcases List.mem_cons.1 ((hm z).2 (by simp [hz])) with rfl | hz2
   ·exact absurd (p2.1 z hz) (self z)
   ·exact hz2
end Go.Am
set_option linter.unusedVariables false
set_option linter.unusedSimpArgs false
namespace Go.Am
open Go
end Go.Am
set_option linter.unusedVariables false
set_option linter.unusedSimpArgs false
namespace Go.Am
open Go
abbrev CmpS (α σ:Type):Type 1:=α→α→σ→{R:Type}→(Int→σ→Option R)→Option R
section
variable {α σ:Type} {cmp:CmpS α σ} {c:α→α→Int} {S:α→Prop} {s:σ}
end
def ypby {α:Type}:Nat→Int→Int→List α→{R:Type}→(List α→Option R)→Option R
 | 0,_,_,_,_,_=>none
 | n + 1,v2,v3,v4,_,e0=>(bif (decide (v2 < v3)) then (inr v4 v3 (at_ v4 v3 fun x9=>(inr v4 v2 (at_ v4 v2 fun x10=>(inr v4 v2 (at_ v4 v2 fun x11=>(inr (set_ v4 v2 x9) v3 (at_ (set_ v4 v2 x9) v3 fun x12=>ypby n (w64 (v2 + 1)) (w64 (v3 - 1)) (set_ (set_ v4 v2 x9) v3 x10) e0)))))))) else e0 v4)
def sRev {α:Type} (N:Nat) (a1:List α) {R:Type} (k0:List α→Option R):Option R :=
 (ypby N 0 (w64 ((a1.length:Int) - 1)) a1 (fun e13=>k0 e13))
theorem yt4y {α:Type}:∀ (n:Nat) (A M B:List α),M.length < 2 * n→A.length + M.length≤1000000000→∀ (R:Type) (e0:List α→Option R),ypby n (A.length:Int) ((A.length:Int) + (M.length:Int) - 1) (A++(M++B)) e0 = e0 (A++(M.reverse++B))
 | 0,_,_,_,h,_,_,_=>by omega
 | n + 1,A,M,B,h,hl,R,e0=>by
  rw [ypby]
  match M,h,hl with
  | [],_,_=>rw [decide_eq_false (by simp;omega)];rfl
  | [x],_,_=>rw [decide_eq_false (by simp)];rfl
  | x::y0::M0,h,hl =>
   obtain ⟨M',y,hM⟩:∃ M' y,y0::M0 = M'++[y]:=⟨(y0::M0).dropLast,(y0::M0).getLast (by simp),(List.dropLast_concat_getLast (by simp)).symm⟩
   rw [hM] at h hl ⊢
   simp only [List.length_cons,List.length_append,List.length_nil] at h hl
   have ej:(A.length:Int) + ((x::(M'++[y])).length:Int) - 1 = (((A++x::M').length:Nat):Int):=by simp;omega
   have l1:A++(x::(M'++[y])++B) = A++x::(M'++y::B):=by simp
   have l2:A++x::(M'++y::B) = (A++x::M')++y::B:=by simp
   have lj:A.length < (A++x::(M'++y::B)).length:=by simp
   have lk:(A++x::M').length < (A++x::(M'++y::B)).length:=by rw [l2];simp
   have s1:set_ (A++x::(M'++y::B)) (A.length:Int) y = A++y::(M'++y::B):=by rw [ygLy,ygsy]
   have l3:A++y::(M'++y::B) = (A++y::M')++y::B:=by simp
   have e3:(A++x::M').length = (A++y::M').length:=by simp
   have s2:set_ (A++y::(M'++y::B)) ((A++x::M').length:Int) x = (A++[y])++(M'++x::B):=by rw [ygLy,e3,l3,ygsy];simp
   have lm:(A++x::M').length < (A++y::(M'++y::B)).length:=by rw [e3,l3];simp
   have w1:w64 ((A.length:Int) + 1) = (((A++[y]).length:Nat):Int):=by rw [yaFy (by omega) (by omega)];simp
   have w2:w64 (((A++x::M').length:Int) - 1) = (((A++[y]).length:Nat):Int) + (M'.length:Int) - 1:=by rw [yaFy (by simp;omega) (by simp;omega)];simp;omega
   rw [ej,l1,decide_eq_true (by simp;omega),cond_true,ybMy lk,yboy (x:=y) (by rw [l2,yfay]),ybMy lj,yboy (x:=x) (by rw [yfay]),ybMy lj,yboy (x:=x) (by rw [yfay]),s1,ybMy lm,yboy (x:=y) (by rw [e3,l3,yfay]),s2,w1,w2,yt4y n (A++[y]) M' (x::B) (by omega) (by simp;omega)]
   congr 1
   simp
theorem yLyy {α:Type} {N:Nat} {l:List α} (hl:l.length≤1000000) (hN:l.length < N) {R:Type} (k:List α→Option R):sRev N l k = k l.reverse:=by
 have h:=yt4y N [] l [] (by omega) (by simp;omega) R k
 simp only [List.nil_append,List.append_nil,List.length_nil] at h
 unfold sRev
 rw [yaFy (by omega) (by omega)]
 have e:(((0:Nat):Int) + (l.length:Int) - 1) = (l.length:Int) - 1:=by omega
 rw [e] at h
 exact h
abbrev CmpU (α σ τ υ:Type):Type 1:=α→α→σ→τ→υ→{R:Type}→(Int→σ→τ→υ→Option R)→Option R
section
variable {α σ τ υ:Type} {cmp:CmpU α σ τ υ} {c:α→α→Int} {S:α→Prop} {s:σ} {t:τ} {u:υ}
end
end Go.Am
