/- The plain law, in Lean alone: R1, R2, R3. No condition: lemmas for the claim. -/
import Derived.Test.YtmhbhdhddlbdlaaGreatDoorPlK
import Derived.Test.YtmhbhdhddlbdlaaGreatDoorPlS1
import Derived.Test.YtmhbhdhddlbdlaaGreatDoorPlB1
set_option linter.unusedVariables false
set_option linter.unusedSectionVars false
set_option linter.unusedSimpArgs false
set_option maxRecDepth 100000
namespace Go.Am
open Go Go.Proofs
def inRow (r:G_Row) (n:Int):Bool:=decide (r.f_From≤n)&&decide (n < r.f_To)
def cov (l:List G_Row) (n:Int):Bool:=l.any fun r=>inRow r n
theorem ydXy {r:G_Row} {n:Int}:inRow r n = true ↔ r.f_From≤n∧n < r.f_To:=by simp [inRow]
theorem yd5y {l:List G_Row} {n:Int}:cov l n = true ↔ ∃ r∈l,r.f_From≤n∧n < r.f_To:=by simp [cov,inRow]
theorem ycJy (r:G_Row) (l:List G_Row) (n:Int):cov (r::l) n = (inRow r n || cov l n):=rfl
theorem ylRy (a b:List G_Row) (n:Int):cov (a++b) n = (cov a n || cov b n):=by simp [cov]
theorem yHIy {a b:List G_Row} (h:a.Perm b) (n:Int):cov a n = cov b n:=by
 rw [Bool.eq_iff_iff,yd5y,yd5y]
 exact ⟨fun ⟨r,h1,h2⟩=>⟨r,h.mem_iff.1 h1,h2⟩,fun ⟨r,h1,h2⟩=>⟨r,h.mem_iff.2 h1,h2⟩⟩
def Can (l:List G_Row):Prop:=l.Pairwise (fun a b=>a.f_To < b.f_From)∧∀ r∈l,r.f_From < r.f_To
theorem ypjy:Can []:=⟨.nil,fun r h=>by cases h⟩
theorem yeYy {r:G_Row} {l:List G_Row}:Can (r::l) ↔ r.f_From < r.f_To∧(∀ x∈l,r.f_To < x.f_From)∧Can l:=by
 simp only [Can,List.pairwise_cons,List.mem_cons,forall_eq_or_imp]
 exact ⟨fun ⟨⟨a,b⟩,c,d⟩=>⟨c,a,b,d⟩,fun ⟨c,a,b,d⟩=>⟨⟨a,b⟩,c,d⟩⟩
theorem yqty {l:List G_Row} {r:G_Row}:Can (l++[r]) ↔ Can l∧(∀ x∈l,x.f_To < r.f_From)∧r.f_From < r.f_To:=by
 simp only [Can,List.pairwise_append,List.mem_append,List.mem_singleton,forall_eq,List.pairwise_cons,List.not_mem_nil,false_implies,implies_true,true_and,List.Pairwise.nil,and_true]
 constructor
 ·rintro ⟨⟨a,b⟩,c⟩
  exact ⟨⟨a,fun x h=>c x (.inl h)⟩,b,c r (.inr rfl)⟩
 ·rintro ⟨⟨a,b⟩,c,d⟩
  refine ⟨⟨a,c⟩,fun x h=>?_⟩
  rcases h with h | rfl
  ·exact b x h
  ·exact d
theorem yrky {l:List G_Row} (h:Can l) (hc:∀ n,cov l n = false):l = []:=by
 cases l with
 | nil=>rfl
 | cons r rs =>
  have h1:=(yeYy.1 h).1
  have h2:=hc r.f_From
  rw [ycJy,ydXy.2 ⟨Int.le_refl _,h1⟩] at h2
  cases h2
theorem yBry {r:G_Row} {l:List G_Row} (h:Can (r::l)) {n:Int} (hn:n < r.f_From):cov (r::l) n = false:=by
 obtain ⟨h1,h2,h3⟩:=yeYy.1 h
 cases hq:cov (r::l) n with
 | false=>rfl
 | true =>
  obtain ⟨x,hx,hx1,hx2⟩:=yd5y.1 hq
  rcases List.mem_cons.1 hx with rfl | hx
  ·omega
  ·have:=h2 x hx;omega
theorem ygpy {r:G_Row} {l:List G_Row} (h:Can (r::l)) {n:Int} (hn:n≤r.f_To):cov l n = false:=by
 obtain ⟨h1,h2,h3⟩:=yeYy.1 h
 cases hq:cov l n with
 | false=>rfl
 | true =>
  obtain ⟨x,hx,hx1,hx2⟩:=yd5y.1 hq
  have:=h2 x hx;omega
theorem ytzy:∀ {a b:List G_Row},Can a→Can b→(∀ n,cov a n = cov b n)→a = b
 | [],b,_,hb,h=>(yrky hb fun n=>(h n).symm).symm
 | r::ts,[],ha,_,h=>yrky ha fun n=>h n
 | r::ts,s::bs,ha,hb,h=>by
  have ha':=yeYy.1 ha
  have hb':=yeYy.1 hb
  have r1:cov (r::ts) r.f_From = true:=by rw [ycJy,ydXy.2 ⟨Int.le_refl _,ha'.1⟩];rfl
  have s1:cov (s::bs) s.f_From = true:=by rw [ycJy,ydXy.2 ⟨Int.le_refl _,hb'.1⟩];rfl
  have e1:r.f_From = s.f_From:=by
   rcases Int.lt_or_le r.f_From s.f_From with hl | hl
   ·have:=yBry hb hl;rw [← h,r1] at this;cases this
   ·rcases Int.lt_or_le s.f_From r.f_From with hl2 | hl2
    ·have:=yBry ha hl2;rw [h,s1] at this;cases this
    ·omega
  have e2:r.f_To = s.f_To:=by
   rcases Int.lt_or_le r.f_To s.f_To with hl | hl
   ·have h1:=h r.f_To
    rw [ycJy,ycJy,ygpy ha (Int.le_refl _),ydXy.2 (show s.f_From≤r.f_To∧r.f_To < s.f_To by omega)] at h1
    have:inRow r r.f_To = false:=by simp [inRow]
    rw [this] at h1;cases h1
   ·rcases Int.lt_or_le s.f_To r.f_To with hl2 | hl2
    ·have h1:=h s.f_To
     rw [ycJy,ycJy,ygpy hb (Int.le_refl _),ydXy.2 (show r.f_From≤s.f_To∧s.f_To < r.f_To by omega)] at h1
     have:inRow s s.f_To = false:=by simp [inRow]
     rw [this] at h1;cases h1
    ·omega
  have e3:r = s:=by cases r;cases s;simp only at e1 e2;rw [e1,e2]
  subst e3
  rw [ytzy ha'.2.2 hb'.2.2 fun n=>by
   rcases Int.lt_or_le r.f_To n with hl | hl
   ·have h1:=h n
    have:inRow r n = false:=by
     cases hq:inRow r n with
     | false=>rfl
     | true=>have:=ydXy.1 hq;omega
    rw [ycJy,ycJy,this] at h1
    simpa using h1
   ·rw [ygpy ha hl,ygpy hb hl]]
def addJ (out:List G_Row) (r:G_Row):List G_Row:=match out.getLast? with
 | none=>out++[r]
 | some p=>bif decide (r.f_From≤p.f_To) then out.dropLast++[⟨p.f_From,if r.f_To > p.f_To then r.f_To else p.f_To⟩] else out++[r]
theorem yqAy (r:G_Row):addJ [] r = [r]:=rfl
theorem yhny (pre:List G_Row) (p r:G_Row):addJ (pre++[p]) r = bif decide (r.f_From≤p.f_To) then pre++[⟨p.f_From,if r.f_To > p.f_To then r.f_To else p.f_To⟩] else pre++[p]++[r]:=by
 unfold addJ
 rw [show (pre++[p]).getLast? = some p by simp,List.dropLast_concat]
theorem ykDy {α:Type} (l:List α):l = [] ∨ ∃ pre p,l = pre++[p]:=by
 rcases List.eq_nil_or_concat l with h | ⟨pre,p,h⟩
 ·exact .inl h
 ·exact .inr ⟨pre,p,by simpa using h⟩
theorem ywky {out:List G_Row} {r:G_Row} (h:Can out) (hr:r.f_From < r.f_To) (hle:∀ p∈out,p.f_From≤r.f_From) :
  Can (addJ out r)∧(∀ n,cov (addJ out r) n = (cov out n || inRow r n))∧∀ p∈addJ out r,p.f_From≤r.f_From:=by
 rcases ykDy out with rfl | ⟨pre,p,rfl⟩
 ·rw [yqAy]
  exact ⟨yeYy.2 ⟨hr,(fun x h=>by cases h),ypjy⟩,(fun n=>by simp [cov]),(fun p hp=>by simp at hp;rw [hp];exact Int.le_refl _)⟩
 ·obtain ⟨h1,h2,h3⟩:=yqty.1 h
  have hp:=hle p (by simp)
  rw [yhny]
  by_cases hc:r.f_From≤p.f_To
  ·rw [decide_eq_true hc]
   simp only [cond_true]
   refine ⟨yqty.2 ⟨h1,h2,?_⟩,fun n=>?_,fun x hx=>?_⟩
   ·simp only;split <;> omega
   ·rw [ylRy,ylRy,Bool.or_assoc]
    congr 1
    rw [Bool.eq_iff_iff,Bool.or_eq_true,yd5y,yd5y,ydXy]
    simp only [List.mem_singleton,exists_eq_left]
    split <;> omega
   ·rcases List.mem_append.1 hx with hx | hx
    ·exact hle x (by simp [hx])
    ·simp at hx;rw [hx];exact hp
  ·rw [decide_eq_false hc]
   simp only [cond_false]
   refine ⟨yqty.2 ⟨h,fun x hx=>?_,hr⟩,fun n=>?_,fun x hx=>?_⟩
   ·rcases List.mem_append.1 hx with hx | hx
    ·have:=h2 x hx;omega
    ·simp at hx;rw [hx];omega
   ·rw [ylRy];congr 1;simp [cov]
   ·rcases List.mem_append.1 hx with hx | hx
    ·exact hle x hx
    ·simp at hx;rw [hx];exact Int.le_refl _
theorem yyey:∀ (rs out:List G_Row),Can out→rs.Pairwise (fun a b=>a.f_From≤b.f_From)→(∀ r∈rs,r.f_From < r.f_To)→(∀ p∈out,∀ r∈rs,p.f_From≤r.f_From) →
  Can (rs.foldl addJ out)∧∀ n,cov (rs.foldl addJ out) n = (cov out n || cov rs n)
 | [],out,h,_,_,_=>⟨h,fun n=>by simp [cov]⟩
 | r::rs,out,h,hs,hr,hle=>by
  obtain ⟨g1,g2,g3⟩:=ywky h (hr r (by simp)) (fun p hp=>hle p hp r (by simp))
  have hs':=List.pairwise_cons.1 hs
  obtain ⟨f1,f2⟩:=yyey rs (addJ out r) g1 hs'.2 (fun x hx=>hr x (by simp [hx])) (fun p hp x hx=>Int.le_trans (g3 p hp) (hs'.1 x hx))
  refine ⟨f1,fun n=>?_⟩
  rw [List.foldl_cons,f2,g2,ycJy,Bool.or_assoc]
def addE (out:List G_Row) (a b:Int):List G_Row:=match out.getLast? with
 | none=>out++[⟨a,b⟩]
 | some p=>bif p.f_To == a then out.dropLast++[⟨p.f_From,b⟩] else out++[⟨a,b⟩]
theorem yL9y {out:List G_Row} {a b:Int} (h:a < b) (hle:∀ p∈out,p.f_To≤a):addE out a b = addJ out ⟨a,b⟩:=by
 rcases ykDy out with rfl | ⟨pre,p,rfl⟩
 ·rfl
 ·have hp:=hle p (by simp)
  rw [yhny]
  unfold addE
  rw [show (pre++[p]).getLast? = some p by simp,List.dropLast_concat]
  simp only
  by_cases hc:p.f_To = a
  ·rw [show (p.f_To == a) = true by simp [hc],decide_eq_true (by omega)]
   simp only [cond_true]
   rw [if_pos (by omega)]
  ·rw [show (p.f_To == a) = false by simp [hc],decide_eq_false (by omega)]
   simp only [cond_false]
def edgeL (f:Int→Bool):List G_Row→List Int→List G_Row
 | out,a::b::rest=>edgeL f (bif f a then addE out a b else out) (b::rest)
 | out,_=>out
def span (es:List Int) (n:Int):Bool:=es.any (fun e=>decide (e≤n))&&es.any (fun e=>decide (n < e))
theorem ywpy {a b:Int} {rest:List Int} (h:(a::b::rest).Pairwise (· < ·)) (n:Int):span (a::b::rest) n = ((decide (a≤n)&&decide (n < b)) || span (b::rest) n):=by
 have h':=List.pairwise_cons.1 h
 have h2:=List.pairwise_cons.1 h'.2
 have hab:=h'.1 b (by simp)
 rw [Bool.eq_iff_iff]
 simp only [span,Bool.or_eq_true,Bool.and_eq_true,List.any_cons,decide_eq_true_eq]
 constructor
 ·rintro ⟨h3,h4⟩
  by_cases hn:n < b
  ·left
   refine ⟨?_,hn⟩
   rcases h3 with h3 | h3 | h3
   ·exact h3
   ·omega
   ·rw [List.any_eq_true] at h3
    obtain ⟨e,he,hq⟩:=h3
    have:=h2.1 e he
    have:=of_decide_eq_true hq
    omega
  ·right
   refine ⟨.inl (by omega),?_⟩
   rcases h4 with h4 | h4
   ·omega
   ·exact h4
 ·rintro (⟨h3,h4⟩ | ⟨h3,h4⟩)
  ·exact ⟨.inl h3,.inr (.inl h4)⟩
  ·exact ⟨.inr h3,.inr h4⟩
theorem ynCy (f:Int→Bool) (E:List Int) (hf:∀ a n,a≤n→(∀ e∈E,a < e→n < e)→f n = f a):∀ (es:List Int) (out:List G_Row),es.Pairwise (· < ·)→(∀ e∈E,∀ a,es.head? = some a→a≤e→e∈es)→Can out→(∀ p∈out,∀ a∈es,p.f_To≤a) →
  Can (edgeL f out es)∧∀ n,cov (edgeL f out es) n = (cov out n || (span es n&&f n))
 | [],out,_,_,h,_=>⟨h,fun n=>by simp [edgeL,span]⟩
 | [a],out,_,_,h,_=>⟨h,fun n=>by
   have:span [a] n = false:=by
    cases hq:span [a] n with
    | false=>rfl
    | true=>simp [span] at hq;omega
   rw [this];simp [edgeL]⟩
 | a::b::rest,out,hs,hE,h,hle=>by
  have h':=List.pairwise_cons.1 hs
  have h2:=List.pairwise_cons.1 h'.2
  have hab:=h'.1 b (by simp)
  have hE':∀ e∈E,∀ x,(b::rest).head? = some x→x≤e→e∈b::rest:=fun e he x hx hxe=>by
   simp at hx;subst hx
   have:=hE e he a rfl (by omega)
   rcases List.mem_cons.1 this with rfl | this
   ·omega
   ·exact this
  have hfn:∀ n,a≤n→n < b→f n = f a:=fun n h1 h3=>hf a n h1 fun e he hae=>by
   have:=hE e he a rfl (by omega)
   rcases List.mem_cons.1 this with rfl | this
   ·omega
   ·rcases List.mem_cons.1 this with rfl | this
    ·exact h3
    ·have:=h2.1 e this;omega
  unfold edgeL
  cases hfa:f a with
  | false =>
   simp only [cond_false]
   obtain ⟨g1,g2⟩:=ynCy f E hf (b::rest) out h'.2 hE' h (fun p hp x hx=>hle p hp x (by simp [hx]))
   refine ⟨g1,fun n=>?_⟩
   rw [g2,ywpy hs]
   by_cases hn:a≤n∧n < b
   ·have:=hfn n hn.1 hn.2
    rw [this,hfa];simp
   ·have:(decide (a≤n)&&decide (n < b)) = false:=by
     cases hq:(decide (a≤n)&&decide (n < b)) with
     | false=>rfl
     | true=>simp at hq;exact absurd hq hn
    rw [this,Bool.false_or]
  | true =>
   simp only [cond_true]
   have hle':∀ p∈out,p.f_To≤a:=fun p hp=>hle p hp a (by simp)
   rw [yL9y hab hle']
   obtain ⟨k1,k2,k3⟩:=ywky (r:=⟨a,b⟩) h hab (fun p hp=>by have:=h.2 p hp;have:=hle' p hp;simp only;omega)
   have hto:∀ p∈addJ out ⟨a,b⟩,∀ x∈b::rest,p.f_To≤x:=fun p hp x hx=>by
    have hbx:b≤x:=by
     rcases List.mem_cons.1 hx with rfl | hx
     ·exact Int.le_refl _
     ·have:=h2.1 x hx;omega
    rcases ykDy out with rfl | ⟨pre,q,rfl⟩
    ·rw [yqAy] at hp;simp at hp;subst hp;exact hbx
    ·rw [yhny] at hp
     have hq:=hle' q (by simp)
     by_cases hc:a≤q.f_To
     ·rw [show decide ((⟨a,b⟩:G_Row).f_From≤q.f_To) = true from decide_eq_true hc] at hp
      simp only [cond_true] at hp
      rcases List.mem_append.1 hp with hp | hp
      ·have:=hle' p (by simp [hp]);omega
      ·simp at hp;subst hp;simp only;split <;> omega
     ·rw [show decide ((⟨a,b⟩:G_Row).f_From≤q.f_To) = false from decide_eq_false hc] at hp
      simp only [cond_false] at hp
      rcases List.mem_append.1 hp with hp | hp
      ·have:=hle' p hp;omega
      ·simp at hp;subst hp;exact hbx
   obtain ⟨g1,g2⟩:=ynCy f E hf (b::rest) (addJ out ⟨a,b⟩) h'.2 hE' k1 hto
   refine ⟨g1,fun n=>?_⟩
   rw [g2,k2,ywpy hs,Bool.or_assoc]
   congr 1
   by_cases hn:a≤n∧n < b
   ·have:=hfn n hn.1 hn.2
    rw [this,hfa];simp [inRow,hn.1,hn.2]
   ·have:(decide (a≤n)&&decide (n < b)) = false:=by
     cases hq:(decide (a≤n)&&decide (n < b)) with
     | false=>rfl
     | true=>simp at hq;exact absurd hq hn
    have h5:inRow ⟨a,b⟩ n = false:=this
    rw [this,h5];simp only [Bool.false_or]
end Go.Am
set_option linter.unusedVariables false
set_option linter.unusedSectionVars false
set_option linter.unusedSimpArgs false
set_option maxRecDepth 100000
namespace Go.Am
open Go Go.Proofs
variable [Fuel]
def BigR (l:List G_Row):Prop:=∀ r∈l,-4398046511104≤r.f_From∧r.f_From≤4398046511104
theorem z47z_is {x y:G_Row} (hx:-4398046511104≤x.f_From∧x.f_From≤4398046511104) (hy:-4398046511104≤y.f_From∧y.f_From≤4398046511104) (R:Type) (k:Int→Option R):z47z x y k = k (x.f_From - y.f_From):=by
 simp only [z47z,z47z_]
 rw [yaFy (by omega) (by omega)]
theorem yDTy {l:List G_Row} (hb:BigR l) (hl:l.length≤1000000):∃ ys:List G_Row,ys.Perm l∧ys.Pairwise (fun a b=>a.f_From≤b.f_From)∧∀ (R:Type) (k:List G_Row→Option R),z39z l k = k ys:=by
 obtain ⟨ys,h1,h2,h3⟩:=yh0y (call:=@z47z _) (xs:=l) (c:=fun a b:G_Row=>a.f_From - b.f_From) (by omega) (fun x hx y hy=>z47z_is (hb x hx) (hb y hy))
  ⟨fun x y _ _=>by omega,fun x y z _ _ _ a b=>by omega,fun x y _ _=>by omega⟩
 exact ⟨ys,h1,h2.imp fun h=>by omega,h3⟩
theorem yxky (out:List G_Row) (r:G_Row):(addJ out r).length≤out.length + 1:=by
 rcases ykDy out with rfl | ⟨pre,p,rfl⟩
 ·simp [yqAy]
 ·rw [yhny]
  cases decide (r.f_From≤p.f_To) <;> simp
theorem yuwy:∀ (rs out:List G_Row),(rs.foldl addJ out).length≤out.length + rs.length
 | [],out=>by simp
 | r::rs,out=>by
  have h1:=yuwy rs (addJ out r)
  have h2:=yxky out r
  simp only [List.foldl_cons,List.length_cons]
  omega
theorem yGRy {α:Type} {pre:List α} {p:α} {R:Type} (k:α→Option R) (hl:pre.length≤1000000) :
  inr (pre++[p]) (w64 (((pre++[p]).length:Int) - 1)) (at_ (pre++[p]) (w64 (((pre++[p]).length:Int) - 1)) k) = k p:=by
 have e:w64 (((pre++[p]).length:Int) - 1) = (pre.length:Int):=by rw [yaFy (by simp <;> omega) (by simp <;> omega)];simp
 rw [e,ybMy (by simp),yboy (yfay pre p [])]
theorem yBZy {α:Type} {pre:List α} {p:α} (hl:pre.length≤1000000):w64 (((pre++[p]).length:Int) - 1) = (pre.length:Int):=by
 rw [yaFy (by simp <;> omega) (by simp <;> omega)];simp
theorem z14z_loop (l:List G_Row) (hl:l.length≤1000000):∀ (xs:List G_Row) (n i:Nat) (out:List G_Row),l.drop i = xs→xs.length < n→out.length≤i →
  ∀ (R:Type) (e0:List G_Row→Option R),z14z_L4 yc5y n (l.length:Int) (i:Int) l out e0 = e0 (xs.foldl addJ out)
 | _,0,_,_,_,h,_,_,_=>by omega
 | [],n + 1,i,out,h,_,_,R,e0=>by rw [z14z_L4,ya5y h];rfl
 | r::rs,n + 1,i,out,h,hn,ho,R,e0=>by
  have h':=yaty h
  have ih:=z14z_loop l hl rs n (i + 1) (addJ out r) h'.2.2.1 (by simp at hn;omega) (by have:=yxky out r;omega) R e0
  rw [z14z_L4,yaWy h]
  simp only [yc5y] at ih
  simp only [cond_true,yePy h,ysVy h,yc5y,yayy (show i < 4611686018427387904 by omega)]
  rw [List.foldl_cons,← ih]
  rcases ykDy out with rfl | ⟨pre,p,rfl⟩
  ·rw [decide_eq_false (show ¬ w64 ((([]:List G_Row).length:Int) - 1) ≥ 0 by rw [yaFy (by simp) (by simp)];simp)]
   simp only [cond_false,room1 [] r 16 (by simp) (by omega)]
   rfl
  ·have hpl:pre.length≤1000000:=by simp at ho;omega
   rw [decide_eq_true (show w64 (((pre++[p]).length:Int) - 1) ≥ 0 by rw [yBZy hpl];omega)]
   simp only [cond_true,yGRy _ hpl,room1 (pre++[p]) r 16 (by simp at ho ⊢;omega) (by omega)]
   rw [yhny]
   cases decide (r.f_From≤p.f_To) with
   | true=>simp only [cond_true,yBZy hpl,ygLy,ygsy]
   | false=>simp only [cond_false]
theorem z14z_is {l:List G_Row} (hb:BigR l) (hr:∀ r∈l,r.f_From < r.f_To) (hl:l.length≤1000000):∃ J,Can J∧(∀ n,cov J n = cov l n)∧J.length≤l.length∧∀ (R:Type) (k:List G_Row→Option R),z14z l k = k J:=by
 obtain ⟨ys,h1,h2,h3⟩:=yDTy hb hl
 have hlen:=h1.length_eq
 obtain ⟨f1,f2⟩:=yyey ys [] ypjy h2 (fun r h=>hr r (h1.mem_iff.1 h)) (fun p h=>by cases h)
 have h4:∀ (R:Type) (e0:List G_Row→Option R),z14z_L4 yc5y yc5y.N (ys.length:Int) 0 ys [] e0 = e0 (ys.foldl addJ []):=fun R e0 =>
  z14z_loop ys (by omega) ys NN 0 [] rfl (by have:=NN_ok;omega) (by simp) R e0
 refine ⟨ys.foldl addJ [],f1,fun n=>by rw [f2,yHIy h1];simp [cov],by have:=yuwy ys [];simp at this;omega,fun R k=>?_⟩
 simp only [yc5y] at h4
 simp only [z14z,z14z_,yc5y,h3,h4]
theorem ym9y:∀ (l:List Int) (p:Int),(p::l).Pairwise (·≤·)→(ycBy (fun x y=>x == y) p l).Pairwise (· < ·)∧(∀ x∈ycBy (fun x y=>x == y) p l,p < x)∧∀ x∈l,x = p ∨ x∈ycBy (fun x y=>x == y) p l
 | [],p,_=>⟨.nil,(fun x h=>by cases h),(fun x h=>by cases h)⟩
 | y::ys,p,h=>by
  have h1:=List.pairwise_cons.1 h
  have hpy:=h1.1 y (by simp)
  unfold ycBy
  by_cases hy:y = p
  ·subst hy
   simp only [beq_self_eq_true,if_true]
   obtain ⟨g1,g2,g3⟩:=ym9y ys y h1.2
   refine ⟨g1,g2,fun x hx=>?_⟩
   rcases List.mem_cons.1 hx with rfl | hx
   ·exact .inl rfl
   ·exact g3 x hx
  ·have:(y == p) = false:=by simp [hy]
   simp only [this,Bool.false_eq_true,if_false]
   obtain ⟨g1,g2,g3⟩:=ym9y ys y h1.2
   refine ⟨List.pairwise_cons.2 ⟨g2,g1⟩,fun x hx=>?_,fun x hx=>?_⟩
   ·rcases List.mem_cons.1 hx with rfl | hx
    ·omega
    ·have:=g2 x hx;omega
   ·rcases List.mem_cons.1 hx with rfl | hx
    ·exact .inr (by simp)
    ·rcases g3 x hx with rfl | hx
     ·exact .inr (by simp)
     ·exact .inr (by simp [hx])
theorem yzYy {l:List Int} (h:l.Pairwise (·≤·)):(ylgy (fun x y=>x == y) l).Pairwise (· < ·)∧∀ x,x∈ylgy (fun x y=>x == y) l ↔ x∈l:=by
 cases l with
 | nil=>exact ⟨.nil,fun x=>Iff.rfl⟩
 | cons p l =>
  obtain ⟨g1,g2,g3⟩:=ym9y l p h
  refine ⟨List.pairwise_cons.2 ⟨g2,g1⟩,fun x=>⟨fun hx=>yv7y hx,fun hx=>?_⟩⟩
  rcases List.mem_cons.1 hx with rfl | hx
  ·exact List.mem_cons_self
  ·rcases g3 x hx with rfl | hx
   ·exact List.mem_cons_self
   ·exact List.mem_cons_of_mem _ hx
def edges (l:List G_Row):List Int:=l.flatMap fun r=>[r.f_From,r.f_To]
theorem yjfy {l:List G_Row} {e:Int}:e∈edges l ↔ ∃ r∈l,e = r.f_From ∨ e = r.f_To:=by simp [edges]
noncomputable def yiny (l:List G_Row):List Int:=ylgy (fun x y=>x == y) (srtI (edges l))
theorem yDsy (l:List G_Row):(yiny l).Pairwise (· < ·)∧∀ e,e∈yiny l ↔ e∈edges l:=by
 have hs:(srtI (edges l)).Pairwise (·≤·):=by
  have:=List.pairwise_mergeSort (le:=fun x y:Int=>decide (x≤y)) (fun a b c h1 h2=>by simp at *;omega) (fun a b=>by simp;omega) (edges l)
  exact this.imp fun h=>by simpa using h
 obtain ⟨g1,g2⟩:=yzYy hs
 exact ⟨g1,fun e=>(g2 e).trans (List.mergeSort_perm _ _).mem_iff⟩
noncomputable def rowsL (l w:List G_Row):List G_Row:=edgeL (fun n=>cov l n&&!cov w n) [] (yiny (l++w))
theorem yqry (l w:List G_Row):Can (rowsL l w)∧∀ n,cov (rowsL l w) n = (cov l n&&!cov w n):=by
 obtain ⟨h1,h2⟩:=yDsy (l++w)
 have hsame:∀ (m:List G_Row),(∀ r∈m,r∈l++w)→∀ a n,a≤n→(∀ e∈edges (l++w),a < e→n < e)→cov m n = cov m a:=fun m hm a n han he=>by
  rw [Bool.eq_iff_iff,yd5y,yd5y]
  constructor
  ·rintro ⟨r,hr,h3,h4⟩
   have e1:=he r.f_From (yjfy.2 ⟨r,hm r hr,.inl rfl⟩)
   exact ⟨r,hr,by omega,by omega⟩
  ·rintro ⟨r,hr,h3,h4⟩
   have e1:=he r.f_To (yjfy.2 ⟨r,hm r hr,.inr rfl⟩) h4
   exact ⟨r,hr,by omega,e1⟩
 obtain ⟨g1,g2⟩:=ynCy (fun n=>cov l n&&!cov w n) (edges (l++w)) (fun a n han he=>by
  rw [hsame l (fun r hr=>by simp [hr]) a n han he,hsame w (fun r hr=>by simp [hr]) a n han he]) (yiny (l++w)) [] h1 (fun e he a _ _=>(h2 e).2 he) ypjy (fun p h=>by cases h)
 refine ⟨g1,fun n=>?_⟩
 rw [show rowsL l w = edgeL (fun n=>cov l n&&!cov w n) [] (yiny (l++w)) from rfl,g2]
 cases hq:cov l n&&!cov w n with
 | false=>simp [cov]
 | true =>
  have:cov l n = true:=by simp at hq;exact hq.1
  obtain ⟨r,hr,h3,h4⟩:=yd5y.1 this
  have hsp:span (yiny (l++w)) n = true:=by
   simp only [span,Bool.and_eq_true,List.any_eq_true,decide_eq_true_eq]
   exact ⟨⟨r.f_From,(h2 _).2 (yjfy.2 ⟨r,by simp [hr],.inl rfl⟩),h3⟩,⟨r.f_To,(h2 _).2 (yjfy.2 ⟨r,by simp [hr],.inr rfl⟩),h4⟩⟩
  rw [hsp];simp [cov]
end Go.Am
set_option linter.unusedVariables false
set_option linter.unusedSectionVars false
set_option linter.unusedSimpArgs false
set_option maxRecDepth 100000
namespace Go.Am
open Go Go.Proofs
variable [Fuel]
def okSeg (cls:List UInt8) (mode at0:Int) (s:G_Segment):Bool:=s.f_Class == cls&&((mode == 0 || s.f_Modes.any (fun y=>mode == y))&&(decide (s.f_Time.f_From≤at0)&&decide (at0 < s.f_Time.f_To)))
def permL (cls:List UInt8) (mode at0:Int):List G_Row→List G_Segment→List G_Row
 | out,[]=>out
 | out,s::ss=>bif okSeg cls mode at0 s then permL cls mode at0 (out++[⟨s.f_Low,s.f_High⟩]) ss else permL cls mode at0 out ss
theorem yjuy (cls:List UInt8) (mode at0:Int):∀ (l:List G_Segment) (out:List G_Row) (r:G_Row),r∈permL cls mode at0 out l→r∈out ∨ ∃ s∈l,r = ⟨s.f_Low,s.f_High⟩
 | [],out,r,h=>.inl h
 | s::ss,out,r,h=>by
  unfold permL at h
  cases hq:okSeg cls mode at0 s with
  | true =>
   rw [hq] at h
   rcases yjuy cls mode at0 ss _ r h with h | ⟨x,hx,h⟩
   ·rcases List.mem_append.1 h with h | h
    ·exact .inl h
    ·simp at h;exact .inr ⟨s,by simp,h⟩
   ·exact .inr ⟨x,by simp [hx],h⟩
  | false =>
   rw [hq] at h
   rcases yjuy cls mode at0 ss _ r h with h | ⟨x,hx,h⟩
   ·exact .inl h
   ·exact .inr ⟨x,by simp [hx],h⟩
theorem yn3y (cls:List UInt8) (mode at0:Int):∀ (l:List G_Segment) (out:List G_Row),(permL cls mode at0 out l).length≤out.length + l.length
 | [],out=>by simp [permL]
 | s::ss,out=>by
  unfold permL
  have h1:=yn3y cls mode at0 ss (out++[⟨s.f_Low,s.f_High⟩])
  have h2:=yn3y cls mode at0 ss out
  simp at h1
  cases okSeg cls mode at0 s <;> simp <;> omega
theorem z57z_is {l:List Int} (hl:l.length≤1000) (v:Int) (R:Type) (k:Bool→Option R):z57z l v k = k (l.any fun y=>v == y):=by
 simp only [z57z,z57z_,yyLy,yKmy]
 rw [yB1y _ v l (by have:=NN_ok;omega) (by have:=NN_ok;omega),ytiy]
theorem yCcy (w:G_Window) (at0:Int) (R:Type) (k:Bool→Option R):kit_Has w at0 k = k (decide (w.f_From≤at0)&&decide (at0 < w.f_To)):=by
 simp only [kit_Has,yqiy]
 cases decide (w.f_From≤at0) <;> rfl
theorem z30z_loop (l:List G_Segment) (hm:∀ s∈l,s.f_Modes.length≤1000) (hl:l.length≤1000) (cls:List UInt8) (mode at0:Int):∀ (xs:List G_Segment) (n i:Nat) (out:List G_Row),l.drop i = xs→xs.length < n→out.length≤i →
  ∀ (R:Type) (e0:List G_Row→Option R),z30z_L3 ydgy n cls mode at0 l (l.length:Int) (i:Int) out e0 = e0 (permL cls mode at0 out xs)
 | _,0,_,_,_,h,_,_,_=>by omega
 | [],n + 1,i,out,h,_,_,R,e0=>by rw [z30z_L3,ya5y h];rfl
 | s::ss,n + 1,i,out,h,hn,ho,R,e0=>by
  have h':=yaty h
  have ih1:=z30z_loop l hm hl cls mode at0 ss n (i + 1) (out++[⟨s.f_Low,s.f_High⟩]) h'.2.2.1 (by simp at hn;omega) (by simp;omega) R e0
  have ih2:=z30z_loop l hm hl cls mode at0 ss n (i + 1) out h'.2.2.1 (by simp at hn;omega) (by omega) R e0
  rw [z30z_L3,yaWy h]
  simp only [ydgy] at ih1 ih2
  simp only [cond_true,ybay h,ydgy,yCcy,z57z_is (hm s (ycpy h)),yayy (show i < 4611686018427387904 by omega),room1 out _ 16 (show out.length≤1000000 by omega) (by omega),ih1,ih2,permL,okSeg]
  cases s.f_Class == cls <;> cases mode == 0 <;> cases (s.f_Modes.any fun y=>mode == y) <;> cases decide (s.f_Time.f_From≤at0) <;> cases decide (at0 < s.f_Time.f_To) <;> rfl
structure GoodG (s:G_Segment):Prop where
 low:0≤s.f_Low
 lt:s.f_Low < s.f_High
 high:s.f_High≤30000000000
theorem yFBy {l:List G_Segment} (hg:∀ s∈l,GoodG s) (cls:List UInt8) (mode at0:Int):BigR (permL cls mode at0 [] l)∧∀ r∈permL cls mode at0 [] l,r.f_From < r.f_To:=by
 constructor
 ·intro r hr
  rcases yjuy cls mode at0 l [] r hr with h | ⟨s,hs,rfl⟩
  ·cases h
  ·have:=hg s hs;have:=this.low;have:=(hg s hs).lt;have:=(hg s hs).high;simp only;omega
 ·intro r hr
  rcases yjuy cls mode at0 l [] r hr with h | ⟨s,hs,rfl⟩
  ·cases h
  ·exact (hg s hs).lt
theorem z30z_is {l:List G_Segment} (hm:∀ s∈l,s.f_Modes.length≤1000) (hg:∀ s∈l,GoodG s) (hl:l.length≤500) (cls:List UInt8) (mode at0:Int) :
  (rowsL (permL cls mode at0 [] l) []).length≤l.length∧∀ (R:Type) (k:List G_Row→Option R),z30z l cls mode at0 k = k (rowsL (permL cls mode at0 [] l) []):=by
 obtain ⟨b1,b2⟩:=yFBy hg cls mode at0
 have hlen:=yn3y cls mode at0 l []
 obtain ⟨J,j1,j2,j3,j4⟩:=z14z_is b1 b2 (by simp at hlen;omega)
 obtain ⟨r1,r2⟩:=yqry (permL cls mode at0 [] l) []
 have e:J = rowsL (permL cls mode at0 [] l) []:=ytzy j1 r1 fun n=>by rw [j2,r2];simp [cov]
 have h:∀ (R:Type) (e0:List G_Row→Option R),z30z_L3 ydgy ydgy.N cls mode at0 l (l.length:Int) 0 [] e0 = e0 (permL cls mode at0 [] l):=fun R e0 =>
  z30z_loop l hm (by omega) cls mode at0 l NN 0 [] rfl (by have:=NN_ok;omega) (by simp) R e0
 rw [← e]
 refine ⟨by simp at hlen;omega,fun R k=>?_⟩
 simp only [z30z,z30z_,h]
 simp only [ydgy,j4]
theorem yuRy (r u:G_Row) (R:Type) (k:Bool→G_Row→Option R):band_May_1 r u k = k (decide (r.f_From≤u.f_From)&&decide (u.f_To≤r.f_To)) u:=by
 simp only [band_May_1,yjVy]
 cases decide (r.f_From≤u.f_From) <;> rfl
theorem yKCy {l:List G_Row} (hl:l.length≤100000) (u:G_Row) (R:Type) (k:Bool→G_Row→Option R):z31z l u k = k (l.any fun r=>decide (r.f_From≤u.f_From)&&decide (u.f_To≤r.f_To)) u:=by
 simp only [z31z,z31z_,ywey,yMxy]
 rw [yrNy _ (fun r=>decide (r.f_From≤u.f_From)&&decide (u.f_To≤r.f_To)) u l (fun x hx R k=>yuRy x u R k) (by have:=NN_ok;omega) (by have:=NN_ok;omega),ytiy]
def usedR (hertz width:Int):G_Row:=⟨w64 (hertz - w64 (Int.tdiv width 2)),w64 (w64 (hertz - w64 (Int.tdiv width 2)) + width)⟩
end Go.Am
