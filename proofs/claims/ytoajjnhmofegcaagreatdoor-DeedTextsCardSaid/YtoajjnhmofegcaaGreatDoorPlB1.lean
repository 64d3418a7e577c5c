/- The plain law, in Lean alone: B1, B2, B3, B4, B5, B6, B7, B8, B9. No condition: lemmas for the claim. -/
import Derived.Test.YtoajjnhmofegcaaGreatDoorAmPrint
import Derived.KernelRfl
set_option linter.unusedVariables false
set_option linter.unusedSimpArgs false
set_option maxRecDepth 100000
namespace Go.Am
open Go
theorem yaZy {x:Int} (h1:-9223372036854775808≤x) (h2:x≤9223372036854775807):w64 x = x:=by
 unfold w64 IntKind.wrap
 simp [IntKind.bits,IntKind.signed]
 omega
theorem yapy {i:Nat} (h:i < 4611686018427387904):w64 ((i:Int) + 1) = ((i + 1:Nat):Int):=by
 rw [yaZy (by omega) (by omega)];omega
theorem yf9y {i:Nat} (h:i < 4611686018427387904) (h0:0 < i):w64 ((i:Int) - 1) = ((i - 1:Nat):Int):=by
 rw [yaZy (by omega) (by omega)];omega
theorem ycyy {α:Type} {l:List α} {i:Nat} {x:α} (h:l[i]? = some x) {R:Type} (k:α→Option R):at_ l (i:Int) k = k x:=by
 unfold at_;rw [Int.toNat_natCast,h]
theorem yv9y {α:Type} {l:List α} {i:Int} {x:α} (h:l[i.toNat]? = some x) {R:Type} (k:α→Option R):at_ l i k = k x:=by
 unfold at_;rw [h]
theorem yhNy {α:Type} {l:List α} {i:Nat} {x:α} (h:l[i]? = some x) {R:Type} (k:α→Option R):get_ l (i:Int) k = k x:=by
 unfold get_;rw [ycyy h];simp
theorem yd6y {α:Type} {l:List α} {i:Nat} (h:i < l.length) {R:Type} (k:Option R):inr l (i:Int) k = k:=by
 unfold inr;rw [decide_eq_true (show 0≤(i:Int) by omega),decide_eq_true (show (i:Int) < (l.length:Int) by omega)];rfl
theorem yhLy {α:Type} {l:List α} {i:Int} (h:0≤i) (h2:i < (l.length:Int)) {R:Type} (k:Option R):inr l i k = k:=by
 unfold inr;rw [decide_eq_true h,decide_eq_true h2];rfl
theorem ynoy {α:Type} {l:List α} {i:Nat} {x:α}:set_ l (i:Int) x = l.set i x:=by unfold set_;rw [Int.toNat_natCast]
theorem yavy {α:Type} {l:List α} {i:Nat} {x:α} {xs:List α} (h:l.drop i = x::xs):l[i]? = some x∧i < l.length∧l.drop (i + 1) = xs∧l.length = i + 1 + xs.length:=by
 have h1:l[i]? = some x:=by
  have:=congrArg (fun t=>t[0]?) h
  simpa [List.getElem?_drop] using this
 have h2:i < l.length:=by
  rcases Nat.lt_or_ge i l.length with h2 | h2
  ·exact h2
  ·rw [List.getElem?_eq_none h2] at h1;cases h1
 have h3:=congrArg List.length h
 simp at h3
 refine ⟨h1,h2,?_,by omega⟩
 rw [← List.drop_drop,h];rfl
theorem yD9y {α:Type} {l:List α} {i:Nat} (h:l.drop i = []):l.length≤i:=by
 have:=congrArg List.length h
 simp at this;omega
theorem yaYy {α:Type} {l:List α} {i:Nat} {x:α} {xs:List α} (h:l.drop i = x::xs):decide ((i:Int) < (l.length:Int)) = true:=by
 have:=(yavy h).2.1;exact decide_eq_true (by omega)
theorem ya2y {α:Type} {l:List α} {i:Nat} (h:l.drop i = []):decide ((i:Int) < (l.length:Int)) = false:=by
 have:=yD9y h;exact decide_eq_false (by omega)
theorem yaPy {α:Type} {l:List α} {i:Nat} {x:α} {xs:List α} (h:l.drop i = x::xs) {R:Type} (k:α→Option R):get_ l (i:Int) k = k x:=yhNy (yavy h).1 k
theorem ytYy {α:Type} {l:List α} {i:Nat} {x:α} {xs:List α} (h:l.drop i = x::xs) {R:Type} (k:Option R):inr l (i:Int) k = k:=yd6y (yavy h).2.1 k
theorem yiPy {α:Type} {l:List α} {i:Nat} {p:α} {xs:List α} (h:l.drop (i - 1) = p::xs) (h0:0 < i) (hl:l.length < 4611686018427387904) {R:Type} (k:α→Option R):get_ l (w64 ((i:Int) - 1)) k = k p:=by
 have:=(yavy h).2.1
 rw [yf9y (by omega) h0];exact yaPy h k
theorem ybOy {α:Type} {l:List α} {i:Nat} {x:α} {xs:List α} (h:l.drop i = x::xs):x∈l:=List.mem_of_getElem? (yavy h).1
end Go.Am
set_option linter.unusedVariables false
set_option linter.unusedSimpArgs false
set_option maxRecDepth 100000
namespace Go.Am
open Go
def yg0y {α:Type} (ne:α→α→Bool):Nat→List α→List α→Int→Int→{R:Type}→(Bool→Option R)→Option R→Option R
 | 0,_,_,_,_,_,_,_=>none
 | n + 1,v3,v4,v5,v6,_,e0,e1=>(bif (decide (v6 < v5)) then (get_ v3 v6 fun x9=>(get_ v4 v6 fun x10=>(bif (ne x9 x10) then e0 false else yg0y ne n v3 v4 v5 (w64 (v6 + 1)) e0 e1))) else e1)
def yqZy {α:Type} (N:Nat) (ne:α→α→Bool) (a b:List α) {R:Type} (k0:Bool→Option R):Option R :=
 (bif ((a.length:Int) != (b.length:Int)) then k0 false else (yg0y ne N a b (a.length:Int) 0 (fun e11=>k0 e11) (k0 true)))
theorem yoJy {α:Type} (ne:α→α→Bool) (l:List α) (hl:l.length < 4611686018427387904) (hne:∀ x,ne x x = false):∀ (xs:List α) (n i:Nat),l.drop i = xs→xs.length < n→∀ (R:Type) (e0:Bool→Option R) (e1:Option R),yg0y ne n l l (l.length:Int) (i:Int) e0 e1 = e1
 | _,0,_,_,h,_,_,_=>by omega
 | [],n + 1,i,h,_,_,_,_=>by rw [yg0y,ya2y h];rfl
 | x::xs,n + 1,i,h,hn,R,e0,e1=>by
  have h':=yavy h
  rw [yg0y,yaYy h]
  simp only [cond_true,yaPy h,hne,cond_false]
  rw [yapy (by omega)]
  exact yoJy ne l hl hne xs n (i + 1) h'.2.2.1 (by simp at hn;omega) R e0 e1
theorem ywTy {α:Type} {N:Nat} {ne:α→α→Bool} {l:List α} (hN:l.length < N) (hN2:N≤4611686018427387904) (hne:∀ x,ne x x = false) {R:Type} (k:Bool→Option R):yqZy N ne l l k = k true:=by
 unfold yqZy
 have h:=yoJy ne l (by omega) hne l N 0 rfl hN R (fun e11=>k e11) (k true)
 simp only [bne_self_eq_false,cond_false]
 exact h
def idxI {α:Type} (p:α→Bool) (l:List α):Int:=match l.findIdx? p with | some i=>(i:Int) | none=>-1
theorem yFLy {α:Type} (p:α→Bool) (l:List α):decide (idxI p l ≥ 0) = l.any p:=by
 unfold idxI
 cases h:l.findIdx? p with
 | some i =>
  have:=List.findIdx?_isSome (xs:=l) (p:=p)
  rw [h] at this
  show decide ((i:Int) ≥ 0) = _
  rw [decide_eq_true (by omega)]
  simpa using this
 | none =>
  have:=List.findIdx?_isSome (xs:=l) (p:=p)
  rw [h] at this
  simp at this ⊢
  intro x hx
  exact this x hx
def yfyy {α σ:Type} (f:α→σ→{R:Type}→(Bool→σ→Option R)→Option R):Nat→List α→Int→Int→σ→{R:Type}→(Int→σ→Option R)→(σ→Option R)→Option R
 | 0,_,_,_,_,_,_,_=>none
 | n + 1,v3,v4,v5,v6,_,e0,e1=>(bif (decide (v5 < v4)) then (get_ v3 v5 fun x10=>(f x10 v6 (fun r11 r12=>(bif r11 then e0 v5 r12 else yfyy f n v3 v4 (w64 (v5 + 1)) r12 e0 e1)))) else e1 v6)
theorem ylXy {α σ:Type} (f:α→σ→{R:Type}→(Bool→σ→Option R)→Option R) (p:α→Bool) (s:σ) (l:List α) (hf:∀ x∈l,∀ (R:Type) (k:Bool→σ→Option R),f x s k = k (p x) s) (hl:l.length < 4611686018427387904) :
  ∀ (xs:List α) (n i:Nat),l.drop i = xs→xs.length < n→∀ (R:Type) (e0:Int→σ→Option R) (e1:σ→Option R),
  yfyy f n l (l.length:Int) (i:Int) s e0 e1 = match xs.findIdx? p with | some j=>e0 ((i + j:Nat):Int) s | none=>e1 s
 | _,0,_,_,h,_,_,_=>by omega
 | [],n + 1,i,h,_,_,_,_=>by rw [yfyy,ya2y h];rfl
 | x::xs,n + 1,i,h,hn,R,e0,e1=>by
  have h':=yavy h
  rw [yfyy,yaYy h]
  simp only [cond_true,yaPy h,List.findIdx?_cons,hf x (ybOy h)]
  cases hq:p x with
  | true=>simp
  | false =>
   simp only [cond_false]
   rw [yapy (by omega),ylXy f p s l hf hl xs n (i + 1) h'.2.2.1 (by simp at hn;omega) R e0 e1]
   cases xs.findIdx? p with
   | none=>rfl
   | some j=>simp;congr 1;omega
def ynFy {α σ:Type} (N:Nat) (f:α→σ→{R:Type}→(Bool→σ→Option R)→Option R) (a1:List α) (a2:σ) {R:Type} (k0:Int→σ→Option R):Option R:=(yfyy f N a1 (a1.length:Int) 0 a2 (fun e9 e10=>k0 e9 e10) (fun e=>k0 (-1) e))
theorem yzKy {α σ:Type} {N:Nat} (f:α→σ→{R:Type}→(Bool→σ→Option R)→Option R) (p:α→Bool) (s:σ) (l:List α) (hf:∀ x∈l,∀ (R:Type) (k:Bool→σ→Option R),f x s k = k (p x) s) (hN:l.length < N) (hN2:N≤4611686018427387904) {R:Type} (k:Int→σ→Option R) :
  ynFy N f l s k = k (idxI p l) s:=by
 unfold ynFy
 have h:=ylXy f p s l hf (by omega) l N 0 rfl hN R (fun e9 e10=>k e9 e10) (fun e=>k (-1) e)
 refine h.trans ?_
 unfold idxI
 cases l.findIdx? p with
 | none=>rfl
 | some j=>simp
def ykiy {α:Type} (cmp:CmpT α):Nat→Int→Int→Int→Int→List α→{R:Type}→(Int→Int→Int→List α→Option R)→Option R
 | 0,_,_,_,_,_,_,_=>none
 | n + 1,v31,v32,v33,v34,v35,_,e0=>(bif (decide (v34 > v31)) then (inr v35 v34 (at_ v35 v34 fun x43=>(inr v35 (w64 (v34 - 1)) (at_ v35 (w64 (v34 - 1)) fun x44=>(cmp x43 x44 (fun r45=>(bif (decide (r45 < 0)) then (inr v35 (w64 (v34 - 1)) (at_ v35 (w64 (v34 - 1)) fun x46=>(inr v35 v34 (at_ v35 v34 fun x47=>(inr v35 v34 (at_ v35 v34 fun x48=>(inr (set_ v35 v34 x46) (w64 (v34 - 1)) (at_ (set_ v35 v34 x46) (w64 (v34 - 1)) fun x49=>ykiy cmp n v31 v32 v33 (w64 (v34 - 1)) (set_ (set_ v35 v34 x46) (w64 (v34 - 1)) x47) e0)))))))) else e0 v31 v32 v33 v35))))))) else e0 v31 v32 v33 v35)
def yf7y {α:Type} (N:Nat) (cmp:CmpT α):Nat→Int→Int→Int→List α→{R:Type}→(List α→Option R)→Option R
 | 0,_,_,_,_,_,_=>none
 | n + 1,v4,v5,v6,v7,_,e0=>(bif (decide (v6 < v5)) then (ykiy cmp N v4 v5 v6 v6 v7 (fun e50 e51 e52 e53=>yf7y N cmp n e50 e51 (w64 (e52 + 1)) e53 e0)) else e0 v7)
def sIns {α:Type} (N:Nat) (cmp:CmpT α) (a1:List α) (a2 a3:Int) {R:Type} (k0:List α→Option R):Option R :=
 (yf7y N cmp N a2 a3 (w64 (a2 + 1)) a1 (fun e54=>k0 e54))
def yfPy {α:Type} (c:α→α→Int) (x:α):List α→List α
 | []=>[x]
 | y::ys=>if c x y < 0 then y::yfPy c x ys else x::y::ys
def ye8y {α:Type} (c:α→α→Int):List α→List α→List α
 | acc,[]=>acc
 | acc,x::xs=>ye8y c (yfPy c x acc) xs
def sortI {α:Type} (c:α→α→Int) (l:List α):List α:=(ye8y c [] l).reverse
theorem ygxy {α:Type} (c:α→α→Int) (x:α):∀ l:List α,(yfPy c x l).Perm (x::l)
 | []=>.refl _
 | y::ys=>by
  unfold yfPy
  split
  ·exact ((ygxy c x ys).cons y).trans (List.Perm.swap x y ys)
  ·exact .refl _
theorem ymky {α:Type} (c:α→α→Int):∀ (l acc:List α),(ye8y c acc l).Perm (acc++l)
 | [],acc=>by simp [ye8y]
 | x::xs,acc=>by
  unfold ye8y
  refine (ymky c xs _).trans ?_
  refine ((ygxy c x acc).append_right xs).trans ?_
  exact (List.perm_middle (l₁:=acc) (l₂:=xs) (a:=x)).symm
theorem yqvy {α:Type} (c:α→α→Int) (l:List α):(sortI c l).Perm l:=by
 unfold sortI
 exact (List.reverse_perm _).trans (by simpa using ymky c l [])
theorem ytQy {α:Type} (c:α→α→Int) (l:List α):(sortI c l).length = l.length:=(yqvy c l).length_eq
theorem yBQy {α:Type} {c:α→α→Int} {l:List α} {x:α}:x∈sortI c l ↔ x∈l:=(yqvy c l).mem_iff
theorem ynky {α:Type} (pre:List α) (a b:α) (post:List α):(pre++a::post).set pre.length b = pre++b::post:=by
 induction pre with
 | nil=>rfl
 | cons x xs ih=>simp [ih]
theorem yruy {α:Type} (pre:List α) (a:α) (post:List α):(pre++a::post)[pre.length]? = some a:=by simp
theorem yqry {α:Type} (cmp:CmpT α) (c:α→α→Int) (S:α→Prop) (hc:∀ x y,S x→S y→∀ (R:Type) (k:Int→Option R),cmp x y k = k (c x y)) (x:α) (hx:S x) (b i:Int) :
  ∀ (rs post:List α) (n:Nat),(∀ y∈rs,S y)→rs.length < n→rs.length + post.length < 4611686018427387000→∀ (R:Type) (e0:Int→Int→Int→List α→Option R),
  ykiy cmp n 0 b i (rs.length:Int) (rs.reverse++x::post) e0 = e0 0 b i ((yfPy c x rs).reverse++post)
 | _,_,0,_,h,_,_,_=>by omega
 | [],post,n + 1,_,_,_,R,e0=>by rw [ykiy];simp [yfPy]
 | y::ys,post,n + 1,hS,hn,hl,R,e0=>by
  have hy:S y:=hS y (by simp)
  have e1:w64 (((y::ys).length:Nat) - 1:Int) = (ys.length:Int):=by
   rw [yaZy (by omega) (by simp at hl ⊢;omega)];simp
  have hd:(y::ys).reverse++x::post = ys.reverse++y::x::post:=by simp
  have g1:(ys.reverse++y::x::post)[ys.length]? = some y:=by
   have:=yruy ys.reverse y (x::post);rwa [List.length_reverse] at this
  have hd2:ys.reverse++y::x::post = (ys.reverse++[y])++x::post:=by simp
  have g2:(ys.reverse++y::x::post)[ys.length + 1]? = some x:=by
   have:=yruy (ys.reverse++[y]) x post
   rw [← hd2] at this;rwa [List.length_append,List.length_reverse] at this
  have len1:(ys.reverse++y::x::post).length = ys.length + 2 + post.length:=by simp;omega
  have s1:(ys.reverse++y::x::post).set (ys.length + 1) y = ys.reverse++y::y::post:=by
   have:=ynky (ys.reverse++[y]) x y post
   rw [← hd2] at this
   rw [List.length_append,List.length_reverse] at this
   refine Eq.trans this ?_
   simp
  have s2:(ys.reverse++y::y::post).set ys.length x = ys.reverse++x::y::post:=by
   have:=ynky ys.reverse y x (y::post);rwa [List.length_reverse] at this
  have g3:(ys.reverse++y::y::post)[ys.length]? = some y:=by
   have:=yruy ys.reverse y (y::post);rwa [List.length_reverse] at this
  have c1:(((y::ys).length:Nat):Int) = ((ys.length + 1:Nat):Int):=by simp
  rw [ykiy]
  rw [decide_eq_true (show (((y::ys).length:Nat):Int) > 0 by simp)]
  simp only [cond_true,hd,e1]
  rw [c1]
  rw [yd6y (by omega),ycyy g2,yd6y (by omega),ycyy g1,hc x y hx hy]
  unfold yfPy
  by_cases hlt:c x y < 0
  ·rw [decide_eq_true hlt,if_pos hlt]
   simp only [cond_true]
   rw [yd6y (by omega),ycyy g1,yd6y (by omega),ycyy g2,yd6y (by omega),ycyy g2,ynoy,s1,yd6y (by simp),ycyy g3,ynoy,s2]
   rw [yqry cmp c S hc x hx b i ys (y::post) n (fun z hz=>hS z (by simp [hz])) (by simp at hn;omega) (by simp at hl ⊢;omega) R e0]
   simp
  ·rw [decide_eq_false hlt,if_neg hlt]
   simp
theorem yq5y {α:Type} (N:Nat) (cmp:CmpT α) (c:α→α→Int) (S:α→Prop) (hc:∀ x y,S x→S y→∀ (R:Type) (k:Int→Option R),cmp x y k = k (c x y)) (len:Nat) (hlen:len < 4611686018427380000) (hN:len < N) :
  ∀ (rest acc:List α) (n:Nat),(∀ y∈acc,S y)→(∀ y∈rest,S y)→acc.length + rest.length = len→rest.length < n→∀ (R:Type) (e0:List α→Option R),
  yf7y N cmp n 0 (len:Int) (acc.length:Int) (acc.reverse++rest) e0 = e0 (ye8y c acc rest).reverse
 | _,_,0,_,_,_,h,_,_=>by omega
 | [],acc,n + 1,_,_,hl,_,R,e0=>by
  rw [yf7y,decide_eq_false (by simp at hl;omega)]
  simp [ye8y]
 | x::xs,acc,n + 1,hS,hS2,hl,hn,R,e0=>by
  have hx:S x:=hS2 x (by simp)
  have hlx:(yfPy c x acc).length = acc.length + 1:=by rw [(ygxy c x acc).length_eq];simp
  rw [yf7y,decide_eq_true (by simp at hl;omega)]
  simp only [cond_true]
  rw [yqry cmp c S hc x hx (len:Int) (acc.length:Int) acc xs N hS (by simp at hl;omega) (by simp at hl;omega),yapy (by omega),← hlx]
  rw [yq5y N cmp c S hc len hlen hN xs (yfPy c x acc) n (fun y hy=>by
   rcases List.mem_cons.1 ((ygxy c x acc).mem_iff.1 hy) with rfl | hy
   ·exact hx
   ·exact hS y hy) (fun y hy=>hS2 y (by simp [hy])) (by simp at hl ⊢;omega) (by simp at hn;omega) R e0]
  rfl
theorem yyzy {α:Type} {N:Nat} {cmp:CmpT α} (c:α→α→Int) (S:α→Prop) (hc:∀ x y,S x→S y→∀ (R:Type) (k:Int→Option R),cmp x y k = k (c x y)) (l:List α) (hS:∀ y∈l,S y) (hN:l.length + 1 < N) (hN2:N≤4611686018427380000) {R:Type} (k:List α→Option R) :
  sIns N cmp l 0 (l.length:Int) k = k (sortI c l):=by
 unfold sIns
 rw [yaZy (by omega) (by omega)]
 cases l with
 | nil =>
  obtain ⟨m,rfl⟩:∃ m,N = m + 1:=⟨N - 1,by omega⟩
  rw [yf7y];simp [sortI,ye8y]
 | cons x xs =>
  have h:=yq5y N cmp c S hc (x::xs).length (by omega) (by omega) xs [x] N (by simpa using hS x (by simp)) (fun y hy=>hS y (by simp [hy])) (by simp;omega) (by simp at hN;omega) R (fun e54=>k e54)
  simp only [List.length_singleton,List.reverse_singleton,List.singleton_append] at h
  exact h
theorem yC6y {α:Type} {N:Nat} {cmp:CmpT α} (l:List α) (a:Int) (h1:-1000000≤a) (h2:a≤1000000000) (hN:0 < N) {R:Type} (k:List α→Option R):sIns N cmp l a a k = k l:=by
 unfold sIns
 obtain ⟨m,rfl⟩:∃ m,N = m + 1:=⟨N - 1,by omega⟩
 rw [yaZy (by omega) (by omega),yf7y,decide_eq_false (by omega)]
 rfl
end Go.Am
set_option linter.unusedVariables false
set_option linter.unusedSimpArgs false
set_option maxRecDepth 100000
namespace Go.Am
open Go
def yhPy {α:Type} (ins:List α→Int→Int→{R:Type}→(List α→Option R)→Option R):Nat→Int→Int→Int→Int→List α→{R:Type}→(Int→Int→Int→List α→Option R)→Option R
 | 0,_,_,_,_,_,_,_=>none
 | n + 1,v3,v4,v5,v6,v7,_,e0=>(bif (decide (v6≤v3)) then (ins v7 v5 v6 (fun r9=>yhPy ins n v3 v4 v6 (w64 (v6 + v4)) r9 e0)) else e0 v3 v4 v5 v7)
theorem yAny {α:Type} {N M:Nat} {cmp:CmpT α} (c:α→α→Int) (S:α→Prop) (hc:∀ x y,S x→S y→∀ (R:Type) (k:Int→Option R),cmp x y k = k (c x y)) (l:List α) (hS:∀ y∈l,S y) (hl:l.length≤20) (hN:1000≤N) (hN2:N≤4611686018427380000) {R:Type} (e0:Int→Int→Int→List α→Option R)
  (ins:List α→Int→Int→{R:Type}→(List α→Option R)→Option R) (hi:∀ l a b (R:Type) (k:List α→Option R),ins l a b k = sIns N cmp l a b k) :
  (yhPy ins (M + 3) (l.length:Int) 20 0 20 l e0 = if l.length = 20 then e0 (l.length:Int) 20 20 (sortI c l) else e0 (l.length:Int) 20 0 l):=by
 rw [yhPy]
 by_cases h:l.length = 20
 ·rw [decide_eq_true (by omega),if_pos h]
  simp only [cond_true,hi]
  have h20:(20:Int) = (l.length:Int):=by omega
  have e1:=yyzy (N:=N) c S hc l hS (by omega) hN2 (fun r9=>yhPy ins (M + 2) (l.length:Int) 20 20 (w64 (20 + 20)) r9 e0)
  rw [← h20] at e1
  rw [← h20,e1,yhPy,yaZy (by omega) (by omega),decide_eq_false (by omega)]
  rfl
 ·rw [decide_eq_false (by omega),if_neg h]
  rfl
def yFOy {α:Type}:Nat→Int→Int→Int→Int→List α→{R:Type}→(Int→Int→Int→List α→Option R)→Option R
 | 0,_,_,_,_,_,_,_=>none
 | n + 1,v30,v31,v32,v33,v34,_,e0=>(bif (decide (v33≤v30)) then none else e0 v30 v31 v32 v34)
def ynEy {α:Type} (N:Nat):Nat→Int→Int→List α→{R:Type}→(List α→Option R)→Option R
 | 0,_,_,_,_,_=>none
 | n + 1,v15,v16,v17,_,e0=>(bif (decide (v16 < v15)) then (yFOy N v15 v16 0 (w64 (2 * v16)) v17 (fun e37 e38 e39 e40=>(bif (decide ((w64 (e39 + e38)) < e37)) then none else ynEy N n e37 (w64 (e38 * 2)) e40 e0))) else e0 v17)
def sSta {α:Type} (N:Nat) (ins:List α→Int→Int→{R:Type}→(List α→Option R)→Option R) (a1:List α) (a2:Int) {R:Type} (k0:List α→Option R):Option R :=
 (yhPy ins N a2 20 0 20 a1 (fun e10 e11 e12 e13=>(ins e13 e12 e10 (fun r14=>(ynEy N N e10 e11 r14 (fun e42=>k0 e42))))))
theorem yHoy {α:Type} {N:Nat} {cmp:CmpT α} (c:α→α→Int) (S:α→Prop) (hc:∀ x y,S x→S y→∀ (R:Type) (k:Int→Option R),cmp x y k = k (c x y)) (l:List α) (hS:∀ y∈l,S y) (hl:l.length≤20) (hN:1000≤N) (hN2:N≤4611686018427380000) (ins:List α→Int→Int→{R:Type}→(List α→Option R)→Option R) (hi:∀ l a b (R:Type) (k:List α→Option R),ins l a b k = sIns N cmp l a b k) {R:Type} (k:List α→Option R) :
  sSta N ins l (l.length:Int) k = k (sortI c l):=by
 obtain ⟨m,rfl⟩:∃ m,N = m + 3:=⟨N - 3,by omega⟩
 unfold sSta
 rw [yAny (N:=m + 3) c S hc l hS hl hN hN2 _ ins hi]
 simp only [hi]
 have h7:∀ r:List α,ynEy (m + 3) (m + 3) (l.length:Int) 20 r k = k r:=fun r=>by
  rw [ynEy,decide_eq_false (by omega)];rfl
 split
 ·rename_i h
  have h20:(l.length:Int) = 20:=by omega
  rw [h20] at h7 ⊢
  rw [yC6y _ _ (by omega) (by omega) (by omega)]
  exact h7 _
 ·rw [yyzy c S hc l hS (by omega) hN2]
  exact h7 _
theorem room1 {α:Type} (l:List α) (x:α) (by_:Nat) (hl:l.length≤1000000) (hby:by_≤10000):decide ((l.length + [x].length) * by_≤yaey) = true:=by
 have p1:(l.length + [x].length) * by_≤1000001 * 10000:=Nat.mul_le_mul (by simp;omega) hby
 exact decide_eq_true (by unfold yaey;omega)
end Go.Am
set_option linter.unusedVariables false
set_option linter.unusedSimpArgs false
set_option maxRecDepth 100000
namespace Go.Am
open Go
def sgn (x:Int):Int:=bif decide (x < 0) then -1 else bif decide (x > 0) then 1 else 0
def cmpI (a b:Int):Int:=bif decide (a < b) then -1 else bif decide (a > b) then 1 else 0
def orL:List Int→Int
 | []=>0
 | x::xs=>bif x != 0 then x else orL xs
structure Ords {α:Type} (c:α→α→Int):Prop where
 anti:∀ x y,c y x = - c x y
 trans:∀ x y z,c x y≤0→c y z≤0→c x z≤0
theorem Ords.refl {α:Type} {c:α→α→Int} (h:Ords c) (x:α):c x x = 0:=by have:=h.anti x x;omega
theorem Ords.on {α β:Type} {c:α→α→Int} (h:Ords c) (f:β→α):Ords (fun x y=>c (f x) (f y)) :=
 ⟨fun x y=>h.anti _ _,fun x y z=>h.trans _ _ _⟩
theorem Ords.nil {α:Type}:Ords (fun (x y:α)=>orL []):=⟨fun _ _=>by simp [orL],fun _ _ _ _ _=>by simp [orL]⟩
theorem Ords.lex {α:Type} {c:α→α→Int} {l:α→α→List Int} (h:Ords c) (h2:Ords (fun x y=>orL (l x y))):Ords (fun x y=>orL (c x y::l x y)):=by
 refine ⟨fun x y=>?_,fun x y z=>?_⟩
 ·have a1:=h.anti x y
  have a2:=h2.anti x y
  simp only [orL]
  by_cases e:c x y = 0
  ·have e2:c y x = 0:=by omega
   simp only [e,e2,bne_self_eq_false,cond_false];exact a2
  ·have e2:c y x≠0:=by omega
   have f1:(c x y != 0) = true:=by simpa using e
   have f2:(c y x != 0) = true:=by simpa using e2
   simp only [f1,f2,cond_true];exact a1
 ·have a1:=h.anti x y
  have a2:=h.anti y z
  have a3:=h.anti x z
  have t1:=h.trans x y z
  have t2:=h.trans z x y
  have t3:=h.trans y z x
  have s:=h2.trans x y z
  have q:∀ a b:Int,(bif a != 0 then a else b) = if a = 0 then b else a:=fun a b=>by
   by_cases e:a = 0
   ·simp [e]
   ·have:(a != 0) = true:=by simpa using e
    rw [this,if_neg e];rfl
  simp only [orL,q]
  intro h3 h4
  split at h3 <;> split at h4 <;> split <;> omega
theorem ysxy:Ords cmpI:=by
 have v:∀ a b:Int,(a < b∧cmpI a b = -1) ∨ (a = b∧cmpI a b = 0) ∨ (b < a∧cmpI a b = 1):=fun a b=>by
  unfold cmpI
  by_cases h1:a < b
  ·exact .inl ⟨h1,by simp [h1]⟩
  ·by_cases h2:a > b
   ·exact .inr (.inr ⟨h2,by simp [h1,h2]⟩)
   ·exact .inr (.inl ⟨by omega,by simp [h1,h2]⟩)
 refine ⟨fun x y=>?_,fun x y z=>?_⟩
 ·rcases v x y with ⟨h1,h2⟩ | ⟨h1,h2⟩ | ⟨h1,h2⟩ <;> rcases v y x with ⟨h3,h4⟩ | ⟨h3,h4⟩ | ⟨h3,h4⟩ <;> omega
 ·rcases v x y with ⟨h1,h2⟩ | ⟨h1,h2⟩ | ⟨h1,h2⟩ <;> rcases v y z with ⟨h3,h4⟩ | ⟨h3,h4⟩ | ⟨h3,h4⟩ <;> rcases v x z with ⟨h5,h6⟩ | ⟨h5,h6⟩ | ⟨h5,h6⟩ <;> omega
theorem yAAy {a b:Int}:cmpI a b = 0 ↔ a = b:=by
 unfold cmpI
 by_cases h1:a < b
 ·simp [h1];omega
 ·by_cases h2:a > b
  ·simp [h1,h2];omega
  ·simp [h1,h2];omega
theorem yx1y:∀ l:List UInt8,Lib.compareBytes l l = 0
 | []=>rfl
 | x::xs=>by unfold Lib.compareBytes;simp [yx1y xs]
theorem u8 {x y:UInt8} (h1:¬ x < y) (h2:¬ y < x):x = y:=by
 have e1:¬ x.toNat < y.toNat:=by simpa [UInt8.lt_iff_toNat_lt] using h1
 have e2:¬ y.toNat < x.toNat:=by simpa [UInt8.lt_iff_toNat_lt] using h2
 exact UInt8.toNat_inj.1 (by omega)
theorem yxZy:∀ a b:List UInt8,Lib.compareBytes a b = 0→a = b
 | [],[],_=>rfl
 | [],_::_,h=>by simp [Lib.compareBytes] at h
 | _::_,[],h=>by simp [Lib.compareBytes] at h
 | x::xs,y::ys,h=>by
  unfold Lib.compareBytes at h
  split at h
  ·cases h
  ·split at h
   ·cases h
   ·rename_i h1 h2
    rw [u8 h1 h2,yxZy xs ys h]
theorem yxWy:∀ a b:List UInt8,Lib.compareBytes b a = - Lib.compareBytes a b
 | [],[]=>rfl
 | [],_::_=>by simp [Lib.compareBytes]
 | _::_,[]=>by simp [Lib.compareBytes]
 | x::xs,y::ys=>by
  unfold Lib.compareBytes
  by_cases h1:x < y
  ·have h2:¬ y < x:=by
    intro h
    have a:=UInt8.lt_iff_toNat_lt.1 h1
    have b:=UInt8.lt_iff_toNat_lt.1 h
    omega
   simp [h1,h2]
  ·by_cases h2:y < x
   ·simp [h1,h2]
   ·simp only [h1,h2,if_false]
    exact yxWy xs ys
theorem yvny:∀ a b c:List UInt8,Lib.compareBytes a b≤0→Lib.compareBytes b c≤0→Lib.compareBytes a c≤0
 | [],_,[],_,_=>by simp [Lib.compareBytes]
 | [],_,_::_,_,_=>by simp [Lib.compareBytes]
 | x::xs,[],_,h,_=>by simp [Lib.compareBytes] at h
 | x::xs,y::ys,[],_,h=>by simp [Lib.compareBytes] at h
 | x::xs,y::ys,z::zs,h1,h2=>by
  unfold Lib.compareBytes at h1 h2 ⊢
  have ll:=@UInt8.lt_iff_toNat_lt
  by_cases a1:x < y
  ·by_cases b1:y < z
   ·have:x < z:=by rw [ll] at *;omega
    simp [this]
   ·by_cases b2:z < y
    ·simp [b1,b2] at h2
    ·have:x < z:=by rw [ll] at *;omega
     simp [this]
  ·by_cases a2:y < x
   ·simp [a1,a2] at h1
   ·simp only [a1,a2,if_false] at h1
    by_cases b1:y < z
    ·have:x < z:=by rw [ll] at *;omega
     simp [this]
    ·by_cases b2:z < y
     ·simp [b1,b2] at h2
     ·simp only [b1,b2,if_false] at h2
      have c1:¬ x < z:=by rw [ll] at *;omega
      have c2:¬ z < x:=by rw [ll] at *;omega
      simp only [c1,c2,if_false]
      exact yvny xs ys zs h1 h2
theorem yERy:Ords Lib.compareBytes:=⟨fun x y=>yxWy x y,yvny⟩
theorem yyjy {a b:Int} (h1:-4398046511104≤a∧a≤4398046511104) (h2:-4398046511104≤b∧b≤4398046511104):sgn (w64 (a - b)) = cmpI a b:=by
 rw [yaZy (by omega) (by omega)]
 unfold sgn cmpI
 by_cases h1:a < b
 ·have:a - b < 0:=by omega
  simp [h1,this]
 ·have g1:¬ a - b < 0:=by omega
  by_cases h2:a > b
  ·have:a - b > 0:=by omega
   simp [h1,h2,g1,this]
  ·have:¬ a - b > 0:=by omega
   simp [h1,h2,g1,this]
theorem yxEy (a b:Int):(a != b) = (cmpI a b != 0):=by
 rw [Bool.eq_iff_iff];simp [yAAy]
theorem yAmy {a b:List UInt8}:Lib.compareBytes a b = 0 ↔ a = b:=⟨yxZy a b,fun h=>by rw [h];exact yx1y b⟩
theorem ne_cb (a b:List UInt8):(!(a == b)) = (Lib.compareBytes a b != 0):=by
 rw [Bool.eq_iff_iff];simp [yAmy]
def aget {K V:Type} (eq:K→K→Bool) (x:K):List (K×V)→Option V
 | []=>none
 | p::ps=>bif eq x p.1 then some p.2 else aget eq x ps
def aset {K V:Type} (eq:K→K→Bool) (x:K) (y:V):List (K×V)→List (K×V)
 | []=>[(x,y)]
 | p::ps=>bif eq x p.1 then (x,y)::ps else p::aset eq x y ps
theorem yg7y {K V:Type} {eq:K→K→Bool} (h:∀ x y,eq x y = true ↔ x = y) (w x:K) (y:V):∀ m:List (K×V),aget eq w (aset eq x y m) = bif eq w x then some y else aget eq w m
 | []=>by simp [aset,aget]
 | p::ps=>by
  unfold aset
  cases hx:eq x p.1 with
  | true =>
   have:=(h x p.1).1 hx
   simp only [cond_true,aget]
   rw [← this]
   cases eq w x <;> rfl
  | false =>
   simp only [cond_false,aget]
   rw [yg7y h w x y ps]
   cases hw:eq w p.1 with
   | true =>
    have e:=(h w p.1).1 hw
    have:eq w x = false:=by
     cases hq:eq w x with
     | false=>rfl
     | true =>
      have e2:=(h w x).1 hq
      rw [← e,← e2,(h w w).2 rfl] at hx
      cases hx
    rw [this];rfl
   | false=>rfl
variable {A:Nat→Type}
theorem yf5y {S:Spec A} (h:yaIy S) {args:List (IV A)} {ys0:List (IV A)} {F:{R:Type}→(Bool→Option R)→Option R} (hF:∀ (R:Type) (k:IV A→List (IV A)→Option R),S args k = F (fun b=>k (.d (.bool b)) ys0)) {b:Bool} (hb:F some = some b) (R:Type) (k:Bool→Option R):F k = k b:=by
 let f:(R:Type)→(Bool→Option R)→IV A→List (IV A)→Option R:=fun R k r _=>match r with | .d (.bool b)=>k b | _=>none
 have h1:=(hF R (f R k)).symm.trans (h args R (f R k))
 have h2:=(hF Bool (f Bool some)).symm.trans (h args Bool (f Bool some))
 have h3:F (fun b=>f R k (.d (.bool b)) ys0) = F k:=rfl
 have h4:F (fun b=>f Bool some (.d (.bool b)) ys0) = F some:=rfl
 rw [h3] at h1
 rw [h4,hb] at h2
 rw [h1]
 cases ht:S args (fun r ys=>some (r,ys)) with
 | none=>rw [ht] at h2;cases h2
 | some p =>
  obtain ⟨v,ys⟩:=p
  rw [ht] at h2
  simp only [Option.bind_some] at h2 ⊢
  unfold f at h2 ⊢
  split at h2
  ·cases h2;rfl
  ·cases h2
end Go.Am
set_option linter.unusedVariables false
set_option linter.unusedSimpArgs false
set_option maxRecDepth 100000
namespace Go.Am
open Go
end Go.Am
set_option linter.unusedVariables false
set_option linter.unusedSimpArgs false
set_option maxRecDepth 100000
namespace Go.Am
open Go
end Go.Am
set_option linter.unusedVariables false
set_option linter.unusedSectionVars false
set_option linter.unusedSimpArgs false
namespace Go.Am
open Go
end Go.Am
set_option linter.unusedVariables false
set_option linter.unusedSimpArgs false
namespace Go.Am
open Go
end Go.Am
set_option linter.unusedVariables false
set_option linter.unusedSimpArgs false
namespace Go.Am
open Go
abbrev CmpS (α σ:Type):Type 1:=α→α→σ→{R:Type}→(Int→σ→Option R)→Option R
section
variable {α σ:Type} {cmp:CmpS α σ} {c:α→α→Int} {S:α→Prop} {s:σ}
end
abbrev CmpU (α σ τ υ:Type):Type 1:=α→α→σ→τ→υ→{R:Type}→(Int→σ→τ→υ→Option R)→Option R
section
variable {α σ τ υ:Type} {cmp:CmpU α σ τ υ} {c:α→α→Int} {S:α→Prop} {s:σ} {t:τ} {u:υ}
end
end Go.Am
