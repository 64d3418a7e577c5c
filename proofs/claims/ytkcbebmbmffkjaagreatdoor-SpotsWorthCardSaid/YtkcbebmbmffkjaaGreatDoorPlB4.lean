/- The plain law, in Lean alone: B4, B5, B8, B9. No condition: lemmas for the claim. -/
import Derived.Test.YtkcbebmbmffkjaaGreatDoorPlB1
import Derived.KernelRfl
set_option linter.unusedVariables false
set_option linter.unusedSimpArgs false
set_option maxRecDepth 100000
namespace Go.Am
open Go
def sgn (x:Int):Int:=bif decide (x < 0) then -1 else bif decide (x > 0) then 1 else 0
def cmpI (a b:Int):Int:=bif decide (a < b) then -1 else bif decide (a > b) then 1 else 0
def orL:List Int→Int
 | []=>0
 | x :: xs=>bif x != 0 then x else orL xs
structure Ords {α:Type} (c:α→α→Int):Prop where
 anti:∀ x y,c y x = - c x y
 trans:∀ x y z,c x y≤0→c y z≤0→c x z≤0
theorem Ords.pre {α:Type} {c:α→α→Int} (h:Ords c) (S:α→Prop):Pre c S :=
 ⟨fun x y _ _=>by have:=h.anti x y; omega,fun x y z _ _ _=>h.trans x y z,fun x y _ _=>by have:=h.anti x y; omega⟩
theorem Ords.refl {α:Type} {c:α→α→Int} (h:Ords c) (x:α):c x x = 0:=by have:=h.anti x x; omega
theorem Ords.on {α β:Type} {c:α→α→Int} (h:Ords c) (f:β→α):Ords (fun x y=>c (f x) (f y)) :=
 ⟨fun x y=>h.anti _ _,fun x y z=>h.trans _ _ _⟩
theorem Ords.nil {α:Type}:Ords (fun (x y:α)=>orL []):=⟨fun _ _=>by simp [orL],fun _ _ _ _ _=>by simp [orL]⟩
theorem yuVy:Ords cmpI:=by
 have v:∀ a b:Int,(a < b∧cmpI a b = -1) ∨ (a = b∧cmpI a b = 0) ∨ (b < a∧cmpI a b = 1):=fun a b=>by
  unfold cmpI
  by_cases h1:a < b
  ·exact .inl ⟨h1,by simp [h1]⟩
  ·by_cases h2:a > b
   ·exact .inr (.inr ⟨h2,by simp [h1,h2]⟩)
   ·exact .inr (.inl ⟨by omega,by simp [h1,h2]⟩)
 refine ⟨fun x y=>?_,fun x y z=>?_⟩
 ·rcases v x y with ⟨h1,h2⟩ | ⟨h1,h2⟩ | ⟨h1,h2⟩ <;> rcases v y x with ⟨h3,h4⟩ | ⟨h3,h4⟩ | ⟨h3,h4⟩ <;> omega
 ·rcases v x y with ⟨h1,h2⟩ | ⟨h1,h2⟩ | ⟨h1,h2⟩ <;> rcases v y z with ⟨h3,h4⟩ | ⟨h3,h4⟩ | ⟨h3,h4⟩ <;> rcases v x z with ⟨h5,h6⟩ | ⟨h5,h6⟩ | ⟨h5,h6⟩ <;> omega
theorem yGMy {a b:Int}:cmpI a b = 0 ↔ a = b:=by
 unfold cmpI
 by_cases h1:a < b
 ·simp [h1]; omega
 ·by_cases h2:a > b
  ·simp [h1,h2]; omega
  ·simp [h1,h2]; omega
theorem yJey (a b:List UInt8):Lib.compareBytes a b = -1 ∨ Lib.compareBytes a b = 0 ∨ Lib.compareBytes a b = 1:=by
 induction a generalizing b with
 | nil=>cases b <;> simp [Lib.compareBytes]
 | cons x xs ih =>
  cases b with
  | nil=>simp [Lib.compareBytes]
  | cons y ys =>
   unfold Lib.compareBytes
   split
   ·exact .inl rfl
   ·split
    ·exact .inr (.inr rfl)
    ·exact ih ys
theorem yuNy:∀ l:List UInt8,Lib.compareBytes l l = 0
 | []=>rfl
 | x :: xs=>by unfold Lib.compareBytes; simp [yuNy xs]
theorem u8 {x y:UInt8} (h1:¬ x < y) (h2:¬ y < x):x = y:=by
 have e1:¬ x.toNat < y.toNat:=by simpa [UInt8.lt_iff_toNat_lt] using h1
 have e2:¬ y.toNat < x.toNat:=by simpa [UInt8.lt_iff_toNat_lt] using h2
 exact UInt8.toNat_inj.1 (by omega)
theorem ynQy:∀ a b:List UInt8,Op.bytesLess a b = decide (Lib.compareBytes a b < 0)
 | [],[]=>by simp [Op.bytesLess,Lib.compareBytes]
 | _ :: _,[]=>by simp [Op.bytesLess,Lib.compareBytes]
 | [],_ :: _=>by simp [Op.bytesLess,Lib.compareBytes]
 | x :: xs,y :: ys=>by
  unfold Op.bytesLess Lib.compareBytes
  by_cases h1:x < y
  ·simp [h1]
  ·by_cases h2:y < x
   ·have h3:¬ x = y:=fun e=>by subst e; exact h1 h2
    simp [h1,h2,h3]
   ·have h3:=u8 h1 h2
    subst h3
    simp [h1,ynQy xs ys]
theorem yuQy:∀ a b:List UInt8,Lib.compareBytes a b = 0→a = b
 | [],[],_=>rfl
 | [],_ :: _,h=>by simp [Lib.compareBytes] at h
 | _ :: _,[],h=>by simp [Lib.compareBytes] at h
 | x :: xs,y :: ys,h=>by
  unfold Lib.compareBytes at h
  split at h
  ·cases h
  ·split at h
   ·cases h
   ·rename_i h1 h2
    rw [u8 h1 h2,yuQy xs ys h]
theorem yCWy {a b:Int} (h1:-4398046511104≤a∧a≤4398046511104) (h2:-4398046511104≤b∧b≤4398046511104):sgn (w64 (a - b)) = cmpI a b:=by
 rw [yaky (by omega) (by omega)]
 unfold sgn cmpI
 by_cases h1:a < b
 ·have:a - b < 0:=by omega
  simp [h1,this]
 ·have g1:¬ a - b < 0:=by omega
  by_cases h2:a > b
  ·have:a - b > 0:=by omega
   simp [h1,h2,g1,this]
  ·have:¬ a - b > 0:=by omega
   simp [h1,h2,g1,this]
theorem yKJy (a b:Int):(a != b) = (cmpI a b != 0):=by
 rw [Bool.eq_iff_iff]; simp [yGMy]
theorem yEuy {a b:List UInt8}:Lib.compareBytes a b = 0 ↔ a = b:=⟨yuQy a b,fun h=>by rw [h]; exact yuNy b⟩
theorem ne_cb (a b:List UInt8):(!(a == b)) = (Lib.compareBytes a b != 0):=by
 rw [Bool.eq_iff_iff]; simp [yEuy]
theorem yqXy {l:List Int}:orL l = 0 ↔ ∀ x ∈ l,x = 0:=by
 induction l with
 | nil=>simp [orL]
 | cons x xs ih =>
  unfold orL
  by_cases h:x = 0
  ·simp [h,ih]
  ·have:(x != 0) = true:=by simpa using h
   rw [this]; simp [h]
def aget {K V:Type} (eq:K→K→Bool) (x:K):List (K×V)→Option V
 | []=>none
 | p :: ps=>bif eq x p.1 then some p.2 else aget eq x ps
def aset {K V:Type} (eq:K→K→Bool) (x:K) (y:V):List (K×V)→List (K×V)
 | []=>[(x,y)]
 | p :: ps=>bif eq x p.1 then (x,y) :: ps else p :: aset eq x y ps
theorem ynSy {K V:Type} {eq:K→K→Bool} (h:∀ x y,eq x y = true ↔ x = y) (w x:K) (y:V):∀ m:List (K×V),aget eq w (aset eq x y m) = bif eq w x then some y else aget eq w m
 | []=>by simp [aset,aget]
 | p :: ps=>by
  unfold aset
  cases hx:eq x p.1 with
  | true =>
   have:=(h x p.1).1 hx
   simp only [cond_true,aget]
   rw [← this]
   cases eq w x <;> rfl
  | false =>
   simp only [cond_false,aget]
   rw [ynSy h w x y ps]
   cases hw:eq w p.1 with
   | true =>
    have e:=(h w p.1).1 hw
    have:eq w x = false:=by
     cases hq:eq w x with
     | false=>rfl
     | true =>
      have e2:=(h w x).1 hq
      rw [← e,← e2,(h w w).2 rfl] at hx
      cases hx
    rw [this]; rfl
   | false=>rfl
variable {A:Nat→Type}
theorem yexy {S:Spec A} (h:yaUy S) {args:List (IV A)} {ys0:List (IV A)} {F:{R:Type}→(Bool→Option R)→Option R} (hF:∀ (R:Type) (k:IV A→List (IV A)→Option R),S args k = F (fun b=>k (.d (.bool b)) ys0)) {b:Bool} (hb:F some = some b) (R:Type) (k:Bool→Option R):F k = k b:=by
 let f:(R:Type)→(Bool→Option R)→IV A→List (IV A)→Option R:=fun R k r _=>match r with | .d (.bool b)=>k b | _=>none
 have h1:=(hF R (f R k)).symm.trans (h args R (f R k))
 have h2:=(hF Bool (f Bool some)).symm.trans (h args Bool (f Bool some))
 have h3:F (fun b=>f R k (.d (.bool b)) ys0) = F k:=rfl
 have h4:F (fun b=>f Bool some (.d (.bool b)) ys0) = F some:=rfl
 rw [h3] at h1
 rw [h4,hb] at h2
 rw [h1]
 cases ht:S args (fun r ys=>some (r,ys)) with
 | none=>rw [ht] at h2; cases h2
 | some p =>
  obtain ⟨v,ys⟩:=p
  rw [ht] at h2
  simp only [Option.bind_some] at h2 ⊢
  unfold f at h2 ⊢
  split at h2
  ·cases h2; rfl
  ·cases h2
theorem yBmy {S:Spec A} (h:yaUy S) {args:List (IV A)} {ys0:List (IV A)} {F:{R:Type}→(List UInt8→Option R)→Option R} (hF:∀ (R:Type) (k:IV A→List (IV A)→Option R),S args k = F (fun b=>k (.d (.str b)) ys0)) {b:List UInt8} (hb:F some = some b) (R:Type) (k:List UInt8→Option R):F k = k b:=by
 let f:(R:Type)→(List UInt8→Option R)→IV A→List (IV A)→Option R:=fun R k r _=>match r with | .d (.str b)=>k b | _=>none
 have h1:=(hF R (f R k)).symm.trans (h args R (f R k))
 have h2:=(hF _ (f _ some)).symm.trans (h args _ (f _ some))
 have h3:F (fun b=>f R k (.d (.str b)) ys0) = F k:=rfl
 have h4:F (fun b=>f _ some (.d (.str b)) ys0) = F some:=rfl
 rw [h3] at h1
 rw [h4,hb] at h2
 rw [h1]
 cases ht:S args (fun r ys=>some (r,ys)) with
 | none=>rw [ht] at h2; cases h2
 | some p =>
  obtain ⟨v,ys⟩:=p
  rw [ht] at h2
  simp only [Option.bind_some] at h2 ⊢
  unfold f at h2 ⊢
  split at h2
  ·cases h2; rfl
  ·cases h2
end Go.Am
set_option linter.unusedVariables false
set_option linter.unusedSimpArgs false
set_option maxRecDepth 100000
namespace Go.Am
open Go
end Go.Am
set_option linter.unusedVariables false
set_option linter.unusedSimpArgs false
namespace Go.Am
open Go
theorem yn5y {α:Type} {c c':α→α→Int} {S:α→Prop} (h:∀ x y,S x→S y→(c x y < 0 ↔ c' x y < 0)) (x:α) (hx:S x):∀ l:List α,(∀ y ∈ l,S y)→ybgy c x l = ybgy c' x l
 | [],_=>rfl
 | y :: ys,hl=>by
  unfold ybgy
  rw [yn5y h x hx ys (fun z hz=>hl z (by simp [hz]))]
  have:=h x y hx (hl y (by simp))
  by_cases hc:c x y < 0
  ·rw [if_pos hc,if_pos (this.1 hc)]
  ·rw [if_neg hc,if_neg (fun h=>hc (this.2 h))]
theorem ymDy {α:Type} {c c':α→α→Int} {S:α→Prop} (h:∀ x y,S x→S y→(c x y < 0 ↔ c' x y < 0)):∀ l acc:List α,(∀ y ∈ l,S y)→(∀ y ∈ acc,S y)→ybhy c acc l = ybhy c' acc l
 | [],_,_,_=>rfl
 | x :: xs,acc,h1,h2=>by
  have hx:=h1 x (by simp)
  unfold ybhy
  rw [yn5y h x hx acc h2]
  refine ymDy h xs _ (fun y hy=>h1 y (by simp [hy])) (fun y hy=>?_)
  rcases List.mem_cons.1 ((ybFy c' x acc).mem_iff.1 hy) with rfl | hy
  ·exact hx
  ·exact h2 y hy
theorem ybGy {α:Type} {c c':α→α→Int} {S:α→Prop} (h:∀ x y,S x→S y→(c x y < 0 ↔ c' x y < 0)) {l:List α} (hl:∀ y ∈ l,S y):sortI c l = sortI c' l:=by
 unfold sortI
 rw [ymDy h l [] hl (fun y hy=>by cases hy)]
theorem yqHy {α:Type} {c:α→α→Int} {x:α} {bs:List α} (h:∀ y ∈ bs,¬ c x y < 0):∀ us:List α,ybgy c x (us ++ bs) = ybgy c x us ++ bs
 | []=>by
  cases bs with
  | nil=>rfl
  | cons b bs=>simp only [List.nil_append,ybgy,if_neg (h b (by simp))]; rfl
 | a :: us=>by
  simp only [List.cons_append,ybgy]
  split
  ·rw [yqHy h us]; rfl
  ·rfl
theorem yqgy {α:Type} {c:α→α→Int} {x:α} (bs:List α):∀ us:List α,(∀ y ∈ us,c x y < 0)→ybgy c x (us ++ bs) = us ++ ybgy c x bs
 | [],_=>rfl
 | a :: us,h=>by
  simp only [List.cons_append,ybgy,if_pos (h a (by simp))]
  rw [yqgy bs us (fun y hy=>h y (by simp [hy]))]
theorem yhwy {α:Type} {c:α→α→Int} {p:α→Bool} (h1:∀ x y,p x = true→p y = false→c x y < 0) (h2:∀ x y,p x = false→p y = true→¬ c x y < 0) :
  ∀ l fs ss:List α,(∀ x ∈ fs,p x = true)→(∀ x ∈ ss,p x = false)→ybhy c (ss ++ fs) l = ybhy c ss (l.filter fun x=>!p x) ++ ybhy c fs (l.filter p)
 | [],_,_,_,_=>rfl
 | x :: xs,fs,ss,hf,hs=>by
  cases hp:p x with
  | true =>
   simp only [ybhy,List.filter_cons,hp,Bool.not_true,if_true,Bool.false_eq_true,if_false]
   rw [yqgy fs ss (fun y hy=>h1 x y hp (hs y hy))]
   refine yhwy h1 h2 xs _ ss (fun y hy=>?_) hs
   rcases List.mem_cons.1 ((ybFy c x fs).mem_iff.1 hy) with rfl | hy
   ·exact hp
   ·exact hf y hy
  | false =>
   simp only [ybhy,List.filter_cons,hp,Bool.not_false,if_true,Bool.false_eq_true,if_false]
   rw [yqHy (fun y hy=>h2 x y hp (hf y hy)) ss]
   refine yhwy h1 h2 xs fs _ hf (fun y hy=>?_)
   rcases List.mem_cons.1 ((ybFy c x ss).mem_iff.1 hy) with rfl | hy
   ·exact hp
   ·exact hs y hy
theorem yAAy {α:Type} {c:α→α→Int} {p:α→Bool} (h1:∀ x y,p x = true→p y = false→c x y < 0) (h2:∀ x y,p x = false→p y = true→¬ c x y < 0) (l:List α) :
  sortI c l = sortI c (l.filter p) ++ sortI c (l.filter fun x=>!p x):=by
 unfold sortI
 rw [← List.reverse_append,← yhwy h1 h2 l [] [] (fun x h=>by cases h) (fun x h=>by cases h)]
 rfl
def ybBy {α:Type} (cnt:α→Bool) (same:α→α→Bool):List α→List α
 | []=>[]
 | s :: r=>bif cnt s && !(r.any fun o=>cnt o && same s o) then s :: ybBy cnt same r else ybBy cnt same r
theorem ye2y {α:Type} {cnt:α→Bool} {same:α→α→Bool}:∀ {l:List α} {x:α},x ∈ ybBy cnt same l→x ∈ l∧cnt x = true
 | [],x,h=>by cases h
 | s :: r,x,h=>by
  unfold ybBy at h
  cases hc:(cnt s && !(r.any fun o=>cnt o && same s o)) with
  | true =>
   rw [hc,cond_true] at h
   rcases List.mem_cons.1 h with rfl | h
   ·exact ⟨by simp,by simp only [Bool.and_eq_true] at hc; exact hc.1⟩
   ·exact ⟨by simp [(ye2y h).1],(ye2y h).2⟩
  | false =>
   rw [hc,cond_false] at h
   exact ⟨by simp [(ye2y h).1],(ye2y h).2⟩
theorem ylSy {α:Type} (cnt:α→Bool) (same:α→α→Bool):∀ l:List α,(ybBy cnt same l).length≤l.length
 | []=>by simp [ybBy]
 | s :: r=>by
  have:=ylSy cnt same r
  unfold ybBy
  cases (cnt s && !(r.any fun o=>cnt o && same s o)) <;> simp <;> omega
theorem yoby {α:Type} {cnt cnt':α→Bool} {same same':α→α→Bool}:∀ {l:List α},(∀ x ∈ l,cnt x = cnt' x)→(∀ x ∈ l,∀ y ∈ l,cnt x = true→cnt y = true→same x y = same' x y)→ybBy cnt same l = ybBy cnt' same' l
 | [],_,_=>rfl
 | s :: r,h1,h2=>by
  have hs:=h1 s (by simp)
  unfold ybBy
  rw [yoby (fun x hx=>h1 x (by simp [hx])) (fun x hx y hy=>h2 x (by simp [hx]) y (by simp [hy]))]
  have:(cnt s && !(r.any fun o=>cnt o && same s o)) = (cnt' s && !(r.any fun o=>cnt' o && same' s o)):=by
   rw [← hs]
   cases hc:cnt s with
   | false=>rfl
   | true =>
    rw [Bool.true_and,Bool.true_and]
    congr 1
    rw [Bool.eq_iff_iff,List.any_eq_true,List.any_eq_true]
    constructor
    ·rintro ⟨o,ho,h⟩
     simp only [Bool.and_eq_true] at h
     refine ⟨o,ho,?_⟩
     rw [← h1 o (by simp [ho]),h.1,← h2 s (by simp) o (by simp [ho]) hc h.1,h.2]; rfl
    ·rintro ⟨o,ho,h⟩
     rw [← h1 o (by simp [ho])] at h
     simp only [Bool.and_eq_true] at h
     refine ⟨o,ho,?_⟩
     rw [h.1,h2 s (by simp) o (by simp [ho]) hc h.1,h.2]; rfl
  rw [this]
theorem yhTy {α:Type} (p:α→Bool) (l:List α):(idxI p l = -1∧l.find? p = none) ∨ ∃ (i:Nat) (x:α),idxI p l = (i:Int)∧l[i]? = some x∧p x = true∧l.find? p = some x:=by
 unfold idxI
 cases h:l.findIdx? p with
 | none =>
  left
  refine ⟨rfl,?_⟩
  rw [List.find?_eq_none]
  intro x hx
  rw [List.findIdx?_eq_none_iff] at h
  simp [h x hx]
 | some i =>
  right
  obtain ⟨hi,hp,hm⟩:=List.findIdx?_eq_some_iff_getElem.1 h
  refine ⟨i,l[i],rfl,List.getElem?_eq_getElem hi,hp,?_⟩
  rw [List.find?_eq_some_iff_getElem]
  exact ⟨hp,i,hi,rfl,fun j hj=>by simpa using hm j hj⟩
end Go.Am
set_option linter.unusedVariables false
set_option linter.unusedSimpArgs false
namespace Go.Am
open Go
abbrev CmpS (α σ:Type):Type 1:=α→α→σ→{R:Type}→(Int→σ→Option R)→Option R
def cmpOf {α:Type} (c:α→α→Int):CmpT α:=fun x y {_} k=>k (c x y)
theorem yaRy {α:Type} {l:List α} {i:Int} {R:Type} {x y:Option R} (h:x = y):inr l i x = inr l i y:=by rw [h]
theorem ya2y {α:Type} {l:List α} {i:Int} {R:Type} {f g:α→Option R} (h:∀ x,x ∈ l→f x = g x):at_ l i f = at_ l i g:=by
 unfold at_
 cases hx:l[i.toNat]? with
 | none=>rfl
 | some x=>exact h x (List.mem_of_getElem? hx)
def ylfy {α σ:Type} (cmp:CmpS α σ):Nat→Int→Int→Int→Int→List α→σ→{R:Type}→(Int→Int→Int→List α→σ→Option R)→Option R
 | 0,_,_,_,_,_,_,_,_=>none
 | n + 1,v42,v43,v44,v45,v46,v47,_,e0=>(bif (decide (v45 > v42)) then (inr v46 v45 (at_ v46 v45 fun x56=>(inr v46 (w64 (v45 - 1)) (at_ v46 (w64 (v45 - 1)) fun x57=>(cmp x56 x57 v47 (fun r58 r59=>(bif (decide (r58 < 0)) then (inr v46 (w64 (v45 - 1)) (at_ v46 (w64 (v45 - 1)) fun x60=>(inr v46 v45 (at_ v46 v45 fun x61=>(inr v46 v45 (at_ v46 v45 fun x62=>(inr (set_ v46 v45 x60) (w64 (v45 - 1)) (at_ (set_ v46 v45 x60) (w64 (v45 - 1)) fun x63=>ylfy cmp n v42 v43 v44 (w64 (v45 - 1)) (set_ (set_ v46 v45 x60) (w64 (v45 - 1)) x61) r59 e0)))))))) else e0 v42 v43 v44 v46 r59))))))) else e0 v42 v43 v44 v46 v47)
def ylNy {α σ:Type} (N:Nat) (cmp:CmpS α σ):Nat→Int→Int→Int→List α→σ→{R:Type}→(List α→σ→Option R)→Option R
 | 0,_,_,_,_,_,_,_=>none
 | n + 1,v5,v6,v7,v8,v9,_,e0=>(bif (decide (v7 < v6)) then (ylfy cmp N v5 v6 v7 v7 v8 v9 (fun e64 e65 e66 e67 e68=>ylNy N cmp n e64 e65 (w64 (e66 + 1)) e67 e68 e0)) else e0 v8 v9)
def sInsZ {α σ:Type} (N:Nat) (cmp:CmpS α σ) (a1:List α) (a2 a3:Int) (a4:σ) {R:Type} (k0:List α→σ→Option R):Option R :=
 (ylNy N cmp N a2 a3 (w64 (a2 + 1)) a1 a4 (fun e74 e75=>k0 e74 e75))
theorem yzDy {α:Type} {S:α→Prop} {l:List α} {i j:Int} {x y:α} (h:∀ z ∈ l,S z) (hx:S x) (hy:S y):∀ z ∈ set_ (set_ l i x) j y,S z:=fun z hz=>by
 rcases ygjy hz with hz | rfl
 ·rcases ygjy hz with hz | rfl
  ·exact h z hz
  ·exact hx
 ·exact hy
section
variable {α σ:Type} {cmp:CmpS α σ} {c:α→α→Int} {S:α→Prop} {s:σ}
theorem yqky (hc:∀ x y,S x→S y→∀ (R:Type) (k:Int→σ→Option R),cmp x y s k = k (c x y) s):∀ (n:Nat) (a b i j:Int) (l:List α),(∀ y ∈ l,S y)→∀ (R:Type) (e0:Int→Int→Int→List α→σ→Option R) (e:Int→Int→Int→List α→Option R),(∀ a b i l,(∀ y ∈ l,S y)→e0 a b i l s = e a b i l) →
  ylfy cmp n a b i j l s e0 = ydOy (cmpOf c) n a b i j l e
 | 0,_,_,_,_,_,_,_,_,_,_=>rfl
 | n + 1,a,b,i,j,l,hl,R,e0,e,he=>by
  rw [ylfy,ydOy]
  cases decide (j > a) with
  | false=>exact he a b i l hl
  | true =>
   refine yaRy (ya2y fun x hx=>yaRy (ya2y fun y hy=>?_))
   rw [hc x y (hl x hx) (hl y hy)]
   show (bif decide (c x y < 0) then _ else _) = (bif decide (c x y < 0) then _ else _)
   cases decide (c x y < 0) with
   | false=>exact he a b i l hl
   | true=>exact yaRy (ya2y fun x2 h2=>yaRy (ya2y fun x3 h3=>yaRy (ya2y fun x4 h4=>yaRy (ya2y fun x5 h5=>yqky hc n a b i _ _ (yzDy hl (hl x2 h2) (hl x3 h3)) R e0 e he))))
theorem yqJy (hc:∀ x y,S x→S y→∀ (R:Type) (k:Int→σ→Option R),cmp x y s k = k (c x y) s) (N:Nat):∀ (n:Nat) (a b i:Int) (l:List α),(∀ y ∈ l,S y)→∀ (R:Type) (e0:List α→σ→Option R),ylNy N cmp n a b i l s e0 = ycCy N (cmpOf c) n a b i l (fun l=>e0 l s)
 | 0,_,_,_,_,_,_,_=>rfl
 | n + 1,a,b,i,l,hl,R,e0=>by
  rw [ylNy,ycCy]
  cases decide (i < b) with
  | false=>rfl
  | true=>exact yqky hc N a b i i l hl R _ _ (fun a b i l hl=>yqJy hc N n a b (w64 (i + 1)) l hl R e0)
theorem yrmy (hc:∀ x y,S x→S y→∀ (R:Type) (k:Int→σ→Option R),cmp x y s k = k (c x y) s) (N:Nat) {a b:Int} {l:List α} (hl:∀ y ∈ l,S y) (R:Type) (k:List α→σ→Option R):sInsZ N cmp l a b s k = sIns N (cmpOf c) l a b (fun l=>k l s) :=
 yqJy hc N N a b _ l hl R _
end
abbrev InsS (α σ:Type):Type 1:=List α→Int→Int→σ→{R:Type}→(List α→σ→Option R)→Option R
def ympy {α σ:Type} (ins:InsS α σ):Nat→Int→Int→Int→Int→List α→σ→{R:Type}→(Int→Int→Int→List α→σ→Option R)→Option R
 | 0,_,_,_,_,_,_,_,_=>none
 | n + 1,v4,v5,v6,v7,v8,v9,_,e0=>(bif (decide (v7≤v4)) then (ins v8 v6 v7 v9 (fun r12 r13=>ympy ins n v4 v5 v7 (w64 (v7 + v5)) r12 r13 e0)) else e0 v4 v5 v6 v8 v9)
def yHay {α σ:Type}:Nat→Int→Int→Int→Int→List α→σ→{R:Type}→(Int→Int→Int→List α→σ→Option R)→Option R
 | 0,_,_,_,_,_,_,_,_=>none
 | n + 1,v36,v37,v38,v39,v40,v41,_,e0=>(bif (decide (v39≤v36)) then none else e0 v36 v37 v38 v40 v41)
def ylVy {α σ:Type} (N:Nat):Nat→Int→Int→List α→σ→{R:Type}→(List α→σ→Option R)→Option R
 | 0,_,_,_,_,_,_=>none
 | n + 1,v21,v22,v23,v24,_,e0=>(bif (decide (v22 < v21)) then (yHay N v21 v22 0 (w64 (2 * v22)) v23 v24 (fun e42 e43 e44 e45 e46=>(bif (decide ((w64 (e44 + e43)) < e42)) then none else ylVy N n e42 (w64 (e43 * 2)) e45 e46 e0))) else e0 v23 v24)
def sStaS {α σ:Type} (N:Nat) (ins:InsS α σ) (a1:List α) (a2:Int) (a3:σ) {R:Type} (k0:List α→σ→Option R):Option R :=
 (ympy ins N a2 20 0 20 a1 a3 (fun e14 e15 e16 e17 e18=>(ins e17 e16 e14 e18 (fun r19 r20=>(ylVy N N e14 e15 r19 r20 (fun e47 e48=>k0 e47 e48))))))
theorem yq6y {α σ:Type} {N:Nat} (c:α→α→Int) (S:α→Prop) (s:σ) (l:List α) (hS:∀ y ∈ l,S y) (hl:l.length≤20) (hN:1000≤N) (hN2:N≤4611686018427380000) (ins:InsS α σ) (hi:∀ l a b (R:Type) (k:List α→σ→Option R),(∀ y ∈ l,S y)→ins l a b s k = sIns N (cmpOf c) l a b (fun l=>k l s)) {R:Type} (k:List α→σ→Option R) :
  sStaS N ins l (l.length:Int) s k = k (sortI c l) s:=by
 obtain ⟨m,rfl⟩:∃ m,N = m + 3:=⟨N - 3,by omega⟩
 have hs:∀ y ∈ sortI c l,S y:=fun y hy=>hS y (ycny.1 hy)
 have hone:∀ (R:Type) (k:List α→Option R),sIns (m + 3) (cmpOf c) l 0 (l.length:Int) k = k (sortI c l):=fun R k=>yoUy (cmp:=cmpOf c) c (fun _=>True) (fun _ _ _ _ _ _=>rfl) l (fun _ _=>trivial) (by omega) hN2 k
 have h7:∀ r:List α,ylVy (m + 3) (m + 3) (l.length:Int) 20 r s (fun a b=>k a b) = k r s:=fun r=>by
  rw [ylVy,decide_eq_false (by omega)]; rfl
 unfold sStaS
 rw [ympy]
 by_cases h:l.length = 20
 ·have h20:(20:Int) = (l.length:Int):=by omega
  rw [decide_eq_true (by omega),cond_true,hi _ _ _ _ _ hS,h20,hone,ympy,← h20,yaky (by omega) (by omega),decide_eq_false (by omega),cond_false,hi _ _ _ _ _ hs,yrny _ _ (by omega) (by omega) (by omega),h20]
  rw [← h20] at h7
  rw [← h20]
  exact h7 _
 ·rw [decide_eq_false (by omega),cond_false,hi _ _ _ _ _ hS,hone]
  exact h7 _
def ypAy {α:Type}:Nat→Int→Int→List α→{R:Type}→(List α→Option R)→Option R
 | 0,_,_,_,_,_=>none
 | n + 1,v2,v3,v4,_,e0=>(bif (decide (v2 < v3)) then (inr v4 v3 (at_ v4 v3 fun x9=>(inr v4 v2 (at_ v4 v2 fun x10=>(inr v4 v2 (at_ v4 v2 fun x11=>(inr (set_ v4 v2 x9) v3 (at_ (set_ v4 v2 x9) v3 fun x12=>ypAy n (w64 (v2 + 1)) (w64 (v3 - 1)) (set_ (set_ v4 v2 x9) v3 x10) e0)))))))) else e0 v4)
def sRev {α:Type} (N:Nat) (a1:List α) {R:Type} (k0:List α→Option R):Option R :=
 (ypAy N 0 (w64 ((a1.length:Int) - 1)) a1 (fun e13=>k0 e13))
theorem yu6y {α:Type}:∀ (n:Nat) (A M B:List α),M.length < 2 * n→A.length + M.length≤1000000000→∀ (R:Type) (e0:List α→Option R),ypAy n (A.length:Int) ((A.length:Int) + (M.length:Int) - 1) (A ++ (M ++ B)) e0 = e0 (A ++ (M.reverse ++ B))
 | 0,_,_,_,h,_,_,_=>by omega
 | n + 1,A,M,B,h,hl,R,e0=>by
  rw [ypAy]
  match M,h,hl with
  | [],_,_=>rw [decide_eq_false (by simp; omega)]; rfl
  | [x],_,_=>rw [decide_eq_false (by simp)]; rfl
  | x :: y0 :: M0,h,hl =>
   obtain ⟨M',y,hM⟩:∃ M' y,y0 :: M0 = M' ++ [y]:=⟨(y0 :: M0).dropLast,(y0 :: M0).getLast (by simp),(List.dropLast_concat_getLast (by simp)).symm⟩
   rw [hM] at h hl ⊢
   simp only [List.length_cons,List.length_append,List.length_nil] at h hl
   have ej:(A.length:Int) + ((x :: (M' ++ [y])).length:Int) - 1 = (((A ++ x :: M').length:Nat):Int):=by simp; omega
   have l1:A ++ (x :: (M' ++ [y]) ++ B) = A ++ x :: (M' ++ y :: B):=by simp
   have l2:A ++ x :: (M' ++ y :: B) = (A ++ x :: M') ++ y :: B:=by simp
   have lj:A.length < (A ++ x :: (M' ++ y :: B)).length:=by simp
   have lk:(A ++ x :: M').length < (A ++ x :: (M' ++ y :: B)).length:=by rw [l2]; simp
   have s1:set_ (A ++ x :: (M' ++ y :: B)) (A.length:Int) y = A ++ y :: (M' ++ y :: B):=by rw [ydjy,ykvy]
   have l3:A ++ y :: (M' ++ y :: B) = (A ++ y :: M') ++ y :: B:=by simp
   have e3:(A ++ x :: M').length = (A ++ y :: M').length:=by simp
   have s2:set_ (A ++ y :: (M' ++ y :: B)) ((A ++ x :: M').length:Int) x = (A ++ [y]) ++ (M' ++ x :: B):=by rw [ydjy,e3,l3,ykvy]; simp
   have lm:(A ++ x :: M').length < (A ++ y :: (M' ++ y :: B)).length:=by rw [e3,l3]; simp
   have w1:w64 ((A.length:Int) + 1) = (((A ++ [y]).length:Nat):Int):=by rw [yaky (by omega) (by omega)]; simp
   have w2:w64 (((A ++ x :: M').length:Int) - 1) = (((A ++ [y]).length:Nat):Int) + (M'.length:Int) - 1:=by rw [yaky (by simp; omega) (by simp; omega)]; simp; omega
   rw [ej,l1,decide_eq_true (by simp; omega),cond_true,ya6y lk,yaOy (x:=y) (by rw [l2,yeFy]),ya6y lj,yaOy (x:=x) (by rw [yeFy]),ya6y lj,yaOy (x:=x) (by rw [yeFy]),s1,ya6y lm,yaOy (x:=y) (by rw [e3,l3,yeFy]),s2,w1,w2,yu6y n (A ++ [y]) M' (x :: B) (by omega) (by simp; omega)]
   congr 1
   simp
theorem yCNy {α:Type} {N:Nat} {l:List α} (hl:l.length≤1000000) (hN:l.length < N) {R:Type} (k:List α→Option R):sRev N l k = k l.reverse:=by
 have h:=yu6y N [] l [] (by omega) (by simp; omega) R k
 simp only [List.nil_append,List.append_nil,List.length_nil] at h
 unfold sRev
 rw [yaky (by omega) (by omega)]
 have e:(((0:Nat):Int) + (l.length:Int) - 1) = (l.length:Int) - 1:=by omega
 rw [e] at h
 exact h
abbrev CmpU (α σ τ υ:Type):Type 1:=α→α→σ→τ→υ→{R:Type}→(Int→σ→τ→υ→Option R)→Option R
def ylQy {α σ τ υ:Type} (cmp:CmpU α σ τ υ):Nat→Int→Int→Int→Int→List α→σ→τ→υ→{R:Type}→(Int→Int→Int→List α→σ→τ→υ→Option R)→Option R
 | 0,_,_,_,_,_,_,_,_,_,_=>none
 | n + 1,v42,v43,v44,v45,v46,v47,v48,v49,_,e0=>(bif (decide (v45 > v42)) then (inr v46 v45 (at_ v46 v45 fun x56=>(inr v46 (w64 (v45 - 1)) (at_ v46 (w64 (v45 - 1)) fun x57=>(cmp x56 x57 v47 v48 v49 (fun r58 r59 r60 r61=>(bif (decide (r58 < 0)) then (inr v46 (w64 (v45 - 1)) (at_ v46 (w64 (v45 - 1)) fun x60=>(inr v46 v45 (at_ v46 v45 fun x61=>(inr v46 v45 (at_ v46 v45 fun x62=>(inr (set_ v46 v45 x60) (w64 (v45 - 1)) (at_ (set_ v46 v45 x60) (w64 (v45 - 1)) fun x63=>ylQy cmp n v42 v43 v44 (w64 (v45 - 1)) (set_ (set_ v46 v45 x60) (w64 (v45 - 1)) x61) r59 r60 r61 e0)))))))) else e0 v42 v43 v44 v46 r59 r60 r61))))))) else e0 v42 v43 v44 v46 v47 v48 v49)
def yl5y {α σ τ υ:Type} (N:Nat) (cmp:CmpU α σ τ υ):Nat→Int→Int→Int→List α→σ→τ→υ→{R:Type}→(List α→σ→τ→υ→Option R)→Option R
 | 0,_,_,_,_,_,_,_,_,_=>none
 | n + 1,v5,v6,v7,v8,v9,v10,v11,_,e0=>(bif (decide (v7 < v6)) then (ylQy cmp N v5 v6 v7 v7 v8 v9 v10 v11 (fun e64 e65 e66 e67 e68 e69 e70=>yl5y N cmp n e64 e65 (w64 (e66 + 1)) e67 e68 e69 e70 e0)) else e0 v8 v9 v10 v11)
def sInsU {α σ τ υ:Type} (N:Nat) (cmp:CmpU α σ τ υ) (a1:List α) (a2 a3:Int) (a4:σ) (a5:τ) (a6:υ) {R:Type} (k0:List α→σ→τ→υ→Option R):Option R :=
 (yl5y N cmp N a2 a3 (w64 (a2 + 1)) a1 a4 a5 a6 (fun e74 e75 e76 e77=>k0 e74 e75 e76 e77))
section
variable {α σ τ υ:Type} {cmp:CmpU α σ τ υ} {c:α→α→Int} {S:α→Prop} {s:σ} {t:τ} {u:υ}
theorem yqsy (hc:∀ x y,S x→S y→∀ (R:Type) (k:Int→σ→τ→υ→Option R),cmp x y s t u k = k (c x y) s t u):∀ (n:Nat) (a b i j:Int) (l:List α),(∀ y ∈ l,S y)→∀ (R:Type) (e0:Int→Int→Int→List α→σ→τ→υ→Option R) (e:Int→Int→Int→List α→Option R),(∀ a b i l,(∀ y ∈ l,S y)→e0 a b i l s t u = e a b i l) →
  ylQy cmp n a b i j l s t u e0 = ydOy (cmpOf c) n a b i j l e
 | 0,_,_,_,_,_,_,_,_,_,_=>rfl
 | n + 1,a,b,i,j,l,hl,R,e0,e,he=>by
  rw [ylQy,ydOy]
  cases decide (j > a) with
  | false=>exact he a b i l hl
  | true =>
   refine yaRy (ya2y fun x hx=>yaRy (ya2y fun y hy=>?_))
   rw [hc x y (hl x hx) (hl y hy)]
   show (bif decide (c x y < 0) then _ else _) = (bif decide (c x y < 0) then _ else _)
   cases decide (c x y < 0) with
   | false=>exact he a b i l hl
   | true=>exact yaRy (ya2y fun x2 h2=>yaRy (ya2y fun x3 h3=>yaRy (ya2y fun x4 h4=>yaRy (ya2y fun x5 h5=>yqsy hc n a b i _ _ (yzDy hl (hl x2 h2) (hl x3 h3)) R e0 e he))))
theorem yqjy (hc:∀ x y,S x→S y→∀ (R:Type) (k:Int→σ→τ→υ→Option R),cmp x y s t u k = k (c x y) s t u) (N:Nat):∀ (n:Nat) (a b i:Int) (l:List α),(∀ y ∈ l,S y)→∀ (R:Type) (e0:List α→σ→τ→υ→Option R),yl5y N cmp n a b i l s t u e0 = ycCy N (cmpOf c) n a b i l (fun l=>e0 l s t u)
 | 0,_,_,_,_,_,_,_=>rfl
 | n + 1,a,b,i,l,hl,R,e0=>by
  rw [yl5y,ycCy]
  cases decide (i < b) with
  | false=>rfl
  | true=>exact yqsy hc N a b i i l hl R _ _ (fun a b i l hl=>yqjy hc N n a b (w64 (i + 1)) l hl R e0)
theorem yI4y (hc:∀ x y,S x→S y→∀ (R:Type) (k:Int→σ→τ→υ→Option R),cmp x y s t u k = k (c x y) s t u) (N:Nat) {a b:Int} {l:List α} (hl:∀ y ∈ l,S y) (R:Type) (k:List α→σ→τ→υ→Option R):sInsU N cmp l a b s t u k = sIns N (cmpOf c) l a b (fun l=>k l s t u) :=
 yqjy hc N N a b _ l hl R _
end
abbrev InsU (α σ τ υ:Type):Type 1:=List α→Int→Int→σ→τ→υ→{R:Type}→(List α→σ→τ→υ→Option R)→Option R
def yluy {α σ τ υ:Type} (ins:InsU α σ τ υ):Nat→Int→Int→Int→Int→List α→σ→τ→υ→{R:Type}→(Int→Int→Int→List α→σ→τ→υ→Option R)→Option R
 | 0,_,_,_,_,_,_,_,_,_,_=>none
 | n + 1,v4,v5,v6,v7,v8,v9,v10,v11,_,e0=>(bif (decide (v7≤v4)) then (ins v8 v6 v7 v9 v10 v11 (fun r12 r13 r14 r15=>yluy ins n v4 v5 v7 (w64 (v7 + v5)) r12 r13 r14 r15 e0)) else e0 v4 v5 v6 v8 v9 v10 v11)
def yI8y {α σ τ υ:Type}:Nat→Int→Int→Int→Int→List α→σ→τ→υ→{R:Type}→(Int→Int→Int→List α→σ→τ→υ→Option R)→Option R
 | 0,_,_,_,_,_,_,_,_,_,_=>none
 | n + 1,v36,v37,v38,v39,v40,v41,v42,v43,_,e0=>(bif (decide (v39≤v36)) then none else e0 v36 v37 v38 v40 v41 v42 v43)
def ymoy {α σ τ υ:Type} (N:Nat):Nat→Int→Int→List α→σ→τ→υ→{R:Type}→(List α→σ→τ→υ→Option R)→Option R
 | 0,_,_,_,_,_,_,_,_=>none
 | n + 1,v21,v22,v23,v24,v25,v26,_,e0=>(bif (decide (v22 < v21)) then (yI8y N v21 v22 0 (w64 (2 * v22)) v23 v24 v25 v26 (fun e42 e43 e44 e45 e46 e47 e48=>(bif (decide ((w64 (e44 + e43)) < e42)) then none else ymoy N n e42 (w64 (e43 * 2)) e45 e46 e47 e48 e0))) else e0 v23 v24 v25 v26)
def sStaU {α σ τ υ:Type} (N:Nat) (ins:InsU α σ τ υ) (a1:List α) (a2:Int) (a3:σ) (a4:τ) (a5:υ) {R:Type} (k0:List α→σ→τ→υ→Option R):Option R :=
 (yluy ins N a2 20 0 20 a1 a3 a4 a5 (fun e14 e15 e16 e17 e18 e19 e20=>(ins e17 e16 e14 e18 e19 e20 (fun r19 r20 r21 r22=>(ymoy N N e14 e15 r19 r20 r21 r22 (fun e47 e48 e49 e50=>k0 e47 e48 e49 e50))))))
theorem yIXy {α σ τ υ:Type} {N:Nat} (c:α→α→Int) (S:α→Prop) (s:σ) (t:τ) (u:υ) (l:List α) (hS:∀ y ∈ l,S y) (hl:l.length≤20) (hN:1000≤N) (hN2:N≤4611686018427380000) (ins:InsU α σ τ υ) (hi:∀ l a b (R:Type) (k:List α→σ→τ→υ→Option R),(∀ y ∈ l,S y)→ins l a b s t u k = sIns N (cmpOf c) l a b (fun l=>k l s t u)) {R:Type} (k:List α→σ→τ→υ→Option R) :
  sStaU N ins l (l.length:Int) s t u k = k (sortI c l) s t u:=by
 obtain ⟨m,rfl⟩:∃ m,N = m + 3:=⟨N - 3,by omega⟩
 have hs:∀ y ∈ sortI c l,S y:=fun y hy=>hS y (ycny.1 hy)
 have hone:∀ (R:Type) (k:List α→Option R),sIns (m + 3) (cmpOf c) l 0 (l.length:Int) k = k (sortI c l):=fun R k=>yoUy (cmp:=cmpOf c) c (fun _=>True) (fun _ _ _ _ _ _=>rfl) l (fun _ _=>trivial) (by omega) hN2 k
 have h7:∀ r:List α,ymoy (m + 3) (m + 3) (l.length:Int) 20 r s t u (fun a b d e=>k a b d e) = k r s t u:=fun r=>by
  rw [ymoy,decide_eq_false (by omega)]; rfl
 unfold sStaU
 rw [yluy]
 by_cases h:l.length = 20
 ·have h20:(20:Int) = (l.length:Int):=by omega
  rw [decide_eq_true (by omega),cond_true,hi _ _ _ _ _ hS,h20,hone,yluy,← h20,yaky (by omega) (by omega),decide_eq_false (by omega),cond_false,hi _ _ _ _ _ hs,yrny _ _ (by omega) (by omega) (by omega),h20]
  rw [← h20] at h7
  rw [← h20]
  exact h7 _
 ·rw [decide_eq_false (by omega),cond_false,hi _ _ _ _ _ hS,hone]
  exact h7 _
end Go.Am
