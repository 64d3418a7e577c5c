/- The plain law, in Lean alone: R1, R2. No condition: lemmas for the claim. -/
import Derived.Test.YtmhbhdhddlbdlaaGreatDoorPlK
import Derived.Test.YtmhbhdhddlbdlaaGreatDoorPlS1
import Derived.Test.YtmhbhdhddlbdlaaGreatDoorPlB1
set_option linter.unusedVariables false
set_option linter.unusedSectionVars false
set_option linter.unusedSimpArgs false
set_option maxRecDepth 100000
namespace Go.Am
open Go Go.Proofs
def inRow (r:G_Row) (n:Int):Bool:=decide (r.f_From≤n) && decide (n < r.f_To)
def cov (l:List G_Row) (n:Int):Bool:=l.any fun r=>inRow r n
theorem yduy {r:G_Row} {n:Int}:inRow r n = true ↔ r.f_From≤n∧n < r.f_To:=by simp [inRow]
theorem ydCy {l:List G_Row} {n:Int}:cov l n = true ↔ ∃ r ∈ l,r.f_From≤n∧n < r.f_To:=by simp [cov,inRow]
theorem ycsy (r:G_Row) (l:List G_Row) (n:Int):cov (r :: l) n = (inRow r n || cov l n):=rfl
theorem ykSy (a b:List G_Row) (n:Int):cov (a ++ b) n = (cov a n || cov b n):=by simp [cov]
theorem yEUy {a b:List G_Row} (h:a.Perm b) (n:Int):cov a n = cov b n:=by
 rw [Bool.eq_iff_iff,ydCy,ydCy]
 exact ⟨fun ⟨r,h1,h2⟩=>⟨r,h.mem_iff.1 h1,h2⟩,fun ⟨r,h1,h2⟩=>⟨r,h.mem_iff.2 h1,h2⟩⟩
def Can (l:List G_Row):Prop:=l.Pairwise (fun a b=>a.f_To < b.f_From)∧∀ r ∈ l,r.f_From < r.f_To
theorem ynly:Can []:=⟨.nil,fun r h=>by cases h⟩
theorem yehy {r:G_Row} {l:List G_Row}:Can (r :: l) ↔ r.f_From < r.f_To∧(∀ x ∈ l,r.f_To < x.f_From)∧Can l:=by
 simp only [Can,List.pairwise_cons,List.mem_cons,forall_eq_or_imp]
 exact ⟨fun ⟨⟨a,b⟩,c,d⟩=>⟨c,a,b,d⟩,fun ⟨c,a,b,d⟩=>⟨⟨a,b⟩,c,d⟩⟩
theorem yo0y {l:List G_Row} {r:G_Row}:Can (l ++ [r]) ↔ Can l∧(∀ x ∈ l,x.f_To < r.f_From)∧r.f_From < r.f_To:=by
 simp only [Can,List.pairwise_append,List.mem_append,List.mem_singleton,forall_eq,List.pairwise_cons,List.not_mem_nil,false_implies,implies_true,true_and,List.Pairwise.nil,and_true]
 constructor
 ·rintro ⟨⟨a,b⟩,c⟩
  exact ⟨⟨a,fun x h=>c x (.inl h)⟩,b,c r (.inr rfl)⟩
 ·rintro ⟨⟨a,b⟩,c,d⟩
  refine ⟨⟨a,c⟩,fun x h=>?_⟩
  rcases h with h | rfl
  ·exact b x h
  ·exact d
theorem ypvy {l:List G_Row} (h:Can l) (hc:∀ n,cov l n = false):l = []:=by
 cases l with
 | nil=>rfl
 | cons r rs =>
  have h1:=(yehy.1 h).1
  have h2:=hc r.f_From
  rw [ycsy,yduy.2 ⟨Int.le_refl _,h1⟩] at h2
  cases h2
theorem yyMy {r:G_Row} {l:List G_Row} (h:Can (r :: l)) {n:Int} (hn:n < r.f_From):cov (r :: l) n = false:=by
 obtain ⟨h1,h2,h3⟩:=yehy.1 h
 cases hq:cov (r :: l) n with
 | false=>rfl
 | true =>
  obtain ⟨x,hx,hx1,hx2⟩:=ydCy.1 hq
  rcases List.mem_cons.1 hx with rfl | hx
  ·omega
  ·have:=h2 x hx; omega
theorem yfOy {r:G_Row} {l:List G_Row} (h:Can (r :: l)) {n:Int} (hn:n≤r.f_To):cov l n = false:=by
 obtain ⟨h1,h2,h3⟩:=yehy.1 h
 cases hq:cov l n with
 | false=>rfl
 | true =>
  obtain ⟨x,hx,hx1,hx2⟩:=ydCy.1 hq
  have:=h2 x hx; omega
theorem yrKy:∀ {a b:List G_Row},Can a→Can b→(∀ n,cov a n = cov b n)→a = b
 | [],b,_,hb,h=>(ypvy hb fun n=>(h n).symm).symm
 | r :: ts,[],ha,_,h=>ypvy ha fun n=>h n
 | r :: ts,s :: bs,ha,hb,h=>by
  have ha':=yehy.1 ha
  have hb':=yehy.1 hb
  have r1:cov (r :: ts) r.f_From = true:=by rw [ycsy,yduy.2 ⟨Int.le_refl _,ha'.1⟩]; rfl
  have s1:cov (s :: bs) s.f_From = true:=by rw [ycsy,yduy.2 ⟨Int.le_refl _,hb'.1⟩]; rfl
  have e1:r.f_From = s.f_From:=by
   rcases Int.lt_or_le r.f_From s.f_From with hl | hl
   ·have:=yyMy hb hl; rw [← h,r1] at this; cases this
   ·rcases Int.lt_or_le s.f_From r.f_From with hl2 | hl2
    ·have:=yyMy ha hl2; rw [h,s1] at this; cases this
    ·omega
  have e2:r.f_To = s.f_To:=by
   rcases Int.lt_or_le r.f_To s.f_To with hl | hl
   ·have h1:=h r.f_To
    rw [ycsy,ycsy,yfOy ha (Int.le_refl _),yduy.2 (show s.f_From≤r.f_To∧r.f_To < s.f_To by omega)] at h1
    have:inRow r r.f_To = false:=by simp [inRow]
    rw [this] at h1; cases h1
   ·rcases Int.lt_or_le s.f_To r.f_To with hl2 | hl2
    ·have h1:=h s.f_To
     rw [ycsy,ycsy,yfOy hb (Int.le_refl _),yduy.2 (show r.f_From≤s.f_To∧s.f_To < r.f_To by omega)] at h1
     have:inRow s s.f_To = false:=by simp [inRow]
     rw [this] at h1; cases h1
    ·omega
  have e3:r = s:=by cases r; cases s; simp only at e1 e2; rw [e1,e2]
  subst e3
  rw [yrKy ha'.2.2 hb'.2.2 fun n=>by
   rcases Int.lt_or_le r.f_To n with hl | hl
   ·have h1:=h n
    have:inRow r n = false:=by
     cases hq:inRow r n with
     | false=>rfl
     | true=>have:=yduy.1 hq; omega
    rw [ycsy,ycsy,this] at h1
    simpa using h1
   ·rw [yfOy ha hl,yfOy hb hl]]
def addJ (out:List G_Row) (r:G_Row):List G_Row:=match out.getLast? with
 | none=>out ++ [r]
 | some p=>bif decide (r.f_From≤p.f_To) then out.dropLast ++ [⟨p.f_From,if r.f_To > p.f_To then r.f_To else p.f_To⟩] else out ++ [r]
theorem yoMy (r:G_Row):addJ [] r = [r]:=rfl
theorem ygVy (pre:List G_Row) (p r:G_Row):addJ (pre ++ [p]) r = bif decide (r.f_From≤p.f_To) then pre ++ [⟨p.f_From,if r.f_To > p.f_To then r.f_To else p.f_To⟩] else pre ++ [p] ++ [r]:=by
 unfold addJ
 rw [show (pre ++ [p]).getLast? = some p by simp,List.dropLast_concat]
theorem yjUy {α:Type} (l:List α):l = [] ∨ ∃ pre p,l = pre ++ [p]:=by
 rcases List.eq_nil_or_concat l with h | ⟨pre,p,h⟩
 ·exact .inl h
 ·exact .inr ⟨pre,p,by simpa using h⟩
theorem yvSy {out:List G_Row} {r:G_Row} (h:Can out) (hr:r.f_From < r.f_To) (hle:∀ p ∈ out,p.f_From≤r.f_From) :
  Can (addJ out r)∧(∀ n,cov (addJ out r) n = (cov out n || inRow r n))∧∀ p ∈ addJ out r,p.f_From≤r.f_From:=by
 rcases yjUy out with rfl | ⟨pre,p,rfl⟩
 ·rw [yoMy]
  exact ⟨yehy.2 ⟨hr,(fun x h=>by cases h),ynly⟩,(fun n=>by simp [cov]),(fun p hp=>by simp at hp; rw [hp]; exact Int.le_refl _)⟩
 ·obtain ⟨h1,h2,h3⟩:=yo0y.1 h
  have hp:=hle p (by simp)
  rw [ygVy]
  by_cases hc:r.f_From≤p.f_To
  ·rw [decide_eq_true hc]
   simp only [cond_true]
   refine ⟨yo0y.2 ⟨h1,h2,?_⟩,fun n=>?_,fun x hx=>?_⟩
   ·simp only; split <;> omega
   ·rw [ykSy,ykSy,Bool.or_assoc]
    congr 1
    rw [Bool.eq_iff_iff,Bool.or_eq_true,ydCy,ydCy,yduy]
    simp only [List.mem_singleton,exists_eq_left]
    split <;> omega
   ·rcases List.mem_append.1 hx with hx | hx
    ·exact hle x (by simp [hx])
    ·simp at hx; rw [hx]; exact hp
  ·rw [decide_eq_false hc]
   simp only [cond_false]
   refine ⟨yo0y.2 ⟨h,fun x hx=>?_,hr⟩,fun n=>?_,fun x hx=>?_⟩
   ·rcases List.mem_append.1 hx with hx | hx
    ·have:=h2 x hx; omega
    ·simp at hx; rw [hx]; omega
   ·rw [ykSy]; congr 1; simp [cov]
   ·rcases List.mem_append.1 hx with hx | hx
    ·exact hle x hx
    ·simp at hx; rw [hx]; exact Int.le_refl _
theorem ywuy:∀ (rs out:List G_Row),Can out→rs.Pairwise (fun a b=>a.f_From≤b.f_From)→(∀ r ∈ rs,r.f_From < r.f_To)→(∀ p ∈ out,∀ r ∈ rs,p.f_From≤r.f_From) →
  Can (rs.foldl addJ out)∧∀ n,cov (rs.foldl addJ out) n = (cov out n || cov rs n)
 | [],out,h,_,_,_=>⟨h,fun n=>by simp [cov]⟩
 | r :: rs,out,h,hs,hr,hle=>by
  obtain ⟨g1,g2,g3⟩:=yvSy h (hr r (by simp)) (fun p hp=>hle p hp r (by simp))
  have hs':=List.pairwise_cons.1 hs
  obtain ⟨f1,f2⟩:=ywuy rs (addJ out r) g1 hs'.2 (fun x hx=>hr x (by simp [hx])) (fun p hp x hx=>Int.le_trans (g3 p hp) (hs'.1 x hx))
  refine ⟨f1,fun n=>?_⟩
  rw [List.foldl_cons,f2,g2,ycsy,Bool.or_assoc]
def addE (out:List G_Row) (a b:Int):List G_Row:=match out.getLast? with
 | none=>out ++ [⟨a,b⟩]
 | some p=>bif p.f_To == a then out.dropLast ++ [⟨p.f_From,b⟩] else out ++ [⟨a,b⟩]
theorem yIfy {out:List G_Row} {a b:Int} (h:a < b) (hle:∀ p ∈ out,p.f_To≤a):addE out a b = addJ out ⟨a,b⟩:=by
 rcases yjUy out with rfl | ⟨pre,p,rfl⟩
 ·rfl
 ·have hp:=hle p (by simp)
  rw [ygVy]
  unfold addE
  rw [show (pre ++ [p]).getLast? = some p by simp,List.dropLast_concat]
  simp only
  by_cases hc:p.f_To = a
  ·rw [show (p.f_To == a) = true by simp [hc],decide_eq_true (by omega)]
   simp only [cond_true]
   rw [if_pos (by omega)]
  ·rw [show (p.f_To == a) = false by simp [hc],decide_eq_false (by omega)]
   simp only [cond_false]
def edgeL (f:Int→Bool):List G_Row→List Int→List G_Row
 | out,a :: b :: rest=>edgeL f (bif f a then addE out a b else out) (b :: rest)
 | out,_=>out
def span (es:List Int) (n:Int):Bool:=es.any (fun e=>decide (e≤n)) && es.any (fun e=>decide (n < e))
theorem ytQy {a b:Int} {rest:List Int} (h:(a :: b :: rest).Pairwise (· < ·)) (n:Int):span (a :: b :: rest) n = ((decide (a≤n) && decide (n < b)) || span (b :: rest) n):=by
 have h':=List.pairwise_cons.1 h
 have h2:=List.pairwise_cons.1 h'.2
 have hab:=h'.1 b (by simp)
 rw [Bool.eq_iff_iff]
 simp only [span,Bool.or_eq_true,Bool.and_eq_true,List.any_cons,decide_eq_true_eq]
 constructor
 ·rintro ⟨h3,h4⟩
  by_cases hn:n < b
  ·left
   refine ⟨?_,hn⟩
   rcases h3 with h3 | h3 | h3
   ·exact h3
   ·omega
   ·rw [List.any_eq_true] at h3
    obtain ⟨e,he,hq⟩:=h3
    have:=h2.1 e he
    have:=of_decide_eq_true hq
    omega
  ·right
   refine ⟨.inl (by omega),?_⟩
   rcases h4 with h4 | h4
   ·omega
   ·exact h4
 ·rintro (⟨h3,h4⟩ | ⟨h3,h4⟩)
  ·exact ⟨.inl h3,.inr (.inl h4)⟩
  ·exact ⟨.inr h3,.inr h4⟩
theorem ymsy (f:Int→Bool) (E:List Int) (hf:∀ a n,a≤n→(∀ e ∈ E,a < e→n < e)→f n = f a):∀ (es:List Int) (out:List G_Row),es.Pairwise (· < ·)→(∀ e ∈ E,∀ a,es.head? = some a→a≤e→e ∈ es)→Can out→(∀ p ∈ out,∀ a ∈ es,p.f_To≤a) →
  Can (edgeL f out es)∧∀ n,cov (edgeL f out es) n = (cov out n || (span es n && f n))
 | [],out,_,_,h,_=>⟨h,fun n=>by simp [edgeL,span]⟩
 | [a],out,_,_,h,_=>⟨h,fun n=>by
   have:span [a] n = false:=by
    cases hq:span [a] n with
    | false=>rfl
    | true=>simp [span] at hq; omega
   rw [this]; simp [edgeL]⟩
 | a :: b :: rest,out,hs,hE,h,hle=>by
  have h':=List.pairwise_cons.1 hs
  have h2:=List.pairwise_cons.1 h'.2
  have hab:=h'.1 b (by simp)
  have hE':∀ e ∈ E,∀ x,(b :: rest).head? = some x→x≤e→e ∈ b :: rest:=fun e he x hx hxe=>by
   simp at hx; subst hx
   have:=hE e he a rfl (by omega)
   rcases List.mem_cons.1 this with rfl | this
   ·omega
   ·exact this
  have hfn:∀ n,a≤n→n < b→f n = f a:=fun n h1 h3=>hf a n h1 fun e he hae=>by
   have:=hE e he a rfl (by omega)
   rcases List.mem_cons.1 this with rfl | this
   ·omega
   ·rcases List.mem_cons.1 this with rfl | this
    ·exact h3
    ·have:=h2.1 e this; omega
  unfold edgeL
  cases hfa:f a with
  | false =>
   simp only [cond_false]
   obtain ⟨g1,g2⟩:=ymsy f E hf (b :: rest) out h'.2 hE' h (fun p hp x hx=>hle p hp x (by simp [hx]))
   refine ⟨g1,fun n=>?_⟩
   rw [g2,ytQy hs]
   by_cases hn:a≤n∧n < b
   ·have:=hfn n hn.1 hn.2
    rw [this,hfa]; simp
   ·have:(decide (a≤n) && decide (n < b)) = false:=by
     cases hq:(decide (a≤n) && decide (n < b)) with
     | false=>rfl
     | true=>simp at hq; exact absurd hq hn
    rw [this,Bool.false_or]
  | true =>
   simp only [cond_true]
   have hle':∀ p ∈ out,p.f_To≤a:=fun p hp=>hle p hp a (by simp)
   rw [yIfy hab hle']
   obtain ⟨k1,k2,k3⟩:=yvSy (r:=⟨a,b⟩) h hab (fun p hp=>by have:=h.2 p hp; have:=hle' p hp; simp only; omega)
   have hto:∀ p ∈ addJ out ⟨a,b⟩,∀ x ∈ b :: rest,p.f_To≤x:=fun p hp x hx=>by
    have hbx:b≤x:=by
     rcases List.mem_cons.1 hx with rfl | hx
     ·exact Int.le_refl _
     ·have:=h2.1 x hx; omega
    rcases yjUy out with rfl | ⟨pre,q,rfl⟩
    ·rw [yoMy] at hp; simp at hp; subst hp; exact hbx
    ·rw [ygVy] at hp
     have hq:=hle' q (by simp)
     by_cases hc:a≤q.f_To
     ·rw [show decide ((⟨a,b⟩:G_Row).f_From≤q.f_To) = true from decide_eq_true hc] at hp
      simp only [cond_true] at hp
      rcases List.mem_append.1 hp with hp | hp
      ·have:=hle' p (by simp [hp]); omega
      ·simp at hp; subst hp; simp only; split <;> omega
     ·rw [show decide ((⟨a,b⟩:G_Row).f_From≤q.f_To) = false from decide_eq_false hc] at hp
      simp only [cond_false] at hp
      rcases List.mem_append.1 hp with hp | hp
      ·have:=hle' p hp; omega
      ·simp at hp; subst hp; exact hbx
   obtain ⟨g1,g2⟩:=ymsy f E hf (b :: rest) (addJ out ⟨a,b⟩) h'.2 hE' k1 hto
   refine ⟨g1,fun n=>?_⟩
   rw [g2,k2,ytQy hs,Bool.or_assoc]
   congr 1
   by_cases hn:a≤n∧n < b
   ·have:=hfn n hn.1 hn.2
    rw [this,hfa]; simp [inRow,hn.1,hn.2]
   ·have:(decide (a≤n) && decide (n < b)) = false:=by
     cases hq:(decide (a≤n) && decide (n < b)) with
     | false=>rfl
     | true=>simp at hq; exact absurd hq hn
    have h5:inRow ⟨a,b⟩ n = false:=this
    rw [this,h5]; simp only [Bool.false_or]
end Go.Am
set_option linter.unusedVariables false
set_option linter.unusedSectionVars false
set_option linter.unusedSimpArgs false
set_option maxRecDepth 100000
namespace Go.Am
open Go Go.Proofs
variable [Fuel]
def BigR (l:List G_Row):Prop:=∀ r ∈ l,-4398046511104≤r.f_From∧r.f_From≤4398046511104
theorem z46z_is {x y:G_Row} (hx:-4398046511104≤x.f_From∧x.f_From≤4398046511104) (hy:-4398046511104≤y.f_From∧y.f_From≤4398046511104) (R:Type) (k:Int→Option R):z46z x y k = k (x.f_From - y.f_From):=by
 simp only [z46z,z46z_]
 rw [yayy (by omega) (by omega)]
theorem yCCy {l:List G_Row} (hb:BigR l) (hl:l.length≤1000000):∃ ys:List G_Row,ys.Perm l∧ys.Pairwise (fun a b=>a.f_From≤b.f_From)∧∀ (R:Type) (k:List G_Row→Option R),z40z l k = k ys:=by
 obtain ⟨ys,h1,h2,h3⟩:=yhoy (call:=@z46z _) (xs:=l) (c:=fun a b:G_Row=>a.f_From - b.f_From) (by omega) (fun x hx y hy=>z46z_is (hb x hx) (hb y hy))
  ⟨fun x y _ _=>by omega,fun x y z _ _ _ a b=>by omega,fun x y _ _=>by omega⟩
 exact ⟨ys,h1,h2.imp fun h=>by omega,h3⟩
theorem ywmy (out:List G_Row) (r:G_Row):(addJ out r).length≤out.length + 1:=by
 rcases yjUy out with rfl | ⟨pre,p,rfl⟩
 ·simp [yoMy]
 ·rw [ygVy]
  cases decide (r.f_From≤p.f_To) <;> simp
theorem ysny:∀ (rs out:List G_Row),(rs.foldl addJ out).length≤out.length + rs.length
 | [],out=>by simp
 | r :: rs,out=>by
  have h1:=ysny rs (addJ out r)
  have h2:=ywmy out r
  simp only [List.foldl_cons,List.length_cons]
  omega
theorem yELy {α:Type} {pre:List α} {p:α} {R:Type} (k:α→Option R) (hl:pre.length≤1000000) :
  inr (pre ++ [p]) (w64 (((pre ++ [p]).length:Int) - 1)) (at_ (pre ++ [p]) (w64 (((pre ++ [p]).length:Int) - 1)) k) = k p:=by
 have e:w64 (((pre ++ [p]).length:Int) - 1) = (pre.length:Int):=by rw [yayy (by simp <;> omega) (by simp <;> omega)]; simp
 rw [e,ybEy (by simp),yaOy (ynty pre p [])]
theorem yyAy {α:Type} {pre:List α} {p:α} (hl:pre.length≤1000000):w64 (((pre ++ [p]).length:Int) - 1) = (pre.length:Int):=by
 rw [yayy (by simp <;> omega) (by simp <;> omega)]; simp
theorem z11z_loop (l:List G_Row) (hl:l.length≤1000000):∀ (xs:List G_Row) (n i:Nat) (out:List G_Row),l.drop i = xs→xs.length < n→out.length≤i →
  ∀ (R:Type) (e0:List G_Row→Option R),z11z_L4 ycBy n (l.length:Int) (i:Int) l out e0 = e0 (xs.foldl addJ out)
 | _,0,_,_,_,h,_,_,_=>by omega
 | [],n + 1,i,out,h,_,_,R,e0=>by rw [z11z_L4,ybqy h]; rfl
 | r :: rs,n + 1,i,out,h,hn,ho,R,e0=>by
  have h':=yaqy h
  have ih:=z11z_loop l hl rs n (i + 1) (addJ out r) h'.2.2.1 (by simp at hn; omega) (by have:=ywmy out r; omega) R e0
  rw [z11z_L4,ybdy h]
  simp only [ycBy] at ih
  simp only [cond_true,yoSy h,yF6y h,ycBy,yauy (show i < 4611686018427387904 by omega)]
  rw [List.foldl_cons,← ih]
  rcases yjUy out with rfl | ⟨pre,p,rfl⟩
  ·rw [decide_eq_false (show ¬ w64 ((([]:List G_Row).length:Int) - 1) ≥ 0 by rw [yayy (by simp) (by simp)]; simp)]
   simp only [cond_false,room1 [] r 16 (by simp) (by omega)]
   rfl
  ·have hpl:pre.length≤1000000:=by simp at ho; omega
   rw [decide_eq_true (show w64 (((pre ++ [p]).length:Int) - 1) ≥ 0 by rw [yyAy hpl]; omega)]
   simp only [cond_true,yELy _ hpl,room1 (pre ++ [p]) r 16 (by simp at ho ⊢; omega) (by omega)]
   rw [ygVy]
   cases decide (r.f_From≤p.f_To) with
   | true=>simp only [cond_true,yyAy hpl,yhDy,yjBy]
   | false=>simp only [cond_false]
theorem z11z_is {l:List G_Row} (hb:BigR l) (hr:∀ r ∈ l,r.f_From < r.f_To) (hl:l.length≤1000000):∃ J,Can J∧(∀ n,cov J n = cov l n)∧J.length≤l.length∧∀ (R:Type) (k:List G_Row→Option R),z11z l k = k J:=by
 obtain ⟨ys,h1,h2,h3⟩:=yCCy hb hl
 have hlen:=h1.length_eq
 obtain ⟨f1,f2⟩:=ywuy ys [] ynly h2 (fun r h=>hr r (h1.mem_iff.1 h)) (fun p h=>by cases h)
 have h4:∀ (R:Type) (e0:List G_Row→Option R),z11z_L4 ycBy ycBy.N (ys.length:Int) 0 ys [] e0 = e0 (ys.foldl addJ []):=fun R e0 =>
  z11z_loop ys (by omega) ys NN 0 [] rfl (by have:=NN_ok; omega) (by simp) R e0
 refine ⟨ys.foldl addJ [],f1,fun n=>by rw [f2,yEUy h1]; simp [cov],by have:=ysny ys []; simp at this; omega,fun R k=>?_⟩
 simp only [ycBy] at h4
 simp only [z11z,z11z_,ycBy,h3,h4]
theorem ymNy:∀ (l:List Int) (p:Int),(p :: l).Pairwise (·≤·)→(yaCy (fun x y=>x == y) p l).Pairwise (· < ·)∧(∀ x ∈ yaCy (fun x y=>x == y) p l,p < x)∧∀ x ∈ l,x = p ∨ x ∈ yaCy (fun x y=>x == y) p l
 | [],p,_=>⟨.nil,(fun x h=>by cases h),(fun x h=>by cases h)⟩
 | y :: ys,p,h=>by
  have h1:=List.pairwise_cons.1 h
  have hpy:=h1.1 y (by simp)
  unfold yaCy
  by_cases hy:y = p
  ·subst hy
   simp only [beq_self_eq_true,if_true]
   obtain ⟨g1,g2,g3⟩:=ymNy ys y h1.2
   refine ⟨g1,g2,fun x hx=>?_⟩
   rcases List.mem_cons.1 hx with rfl | hx
   ·exact .inl rfl
   ·exact g3 x hx
  ·have:(y == p) = false:=by simp [hy]
   simp only [this,Bool.false_eq_true,if_false]
   obtain ⟨g1,g2,g3⟩:=ymNy ys y h1.2
   refine ⟨List.pairwise_cons.2 ⟨g2,g1⟩,fun x hx=>?_,fun x hx=>?_⟩
   ·rcases List.mem_cons.1 hx with rfl | hx
    ·omega
    ·have:=g2 x hx; omega
   ·rcases List.mem_cons.1 hx with rfl | hx
    ·exact .inr (by simp)
    ·rcases g3 x hx with rfl | hx
     ·exact .inr (by simp)
     ·exact .inr (by simp [hx])
theorem yyky {l:List Int} (h:l.Pairwise (·≤·)):(ybuy (fun x y=>x == y) l).Pairwise (· < ·)∧∀ x,x ∈ ybuy (fun x y=>x == y) l ↔ x ∈ l:=by
 cases l with
 | nil=>exact ⟨.nil,fun x=>Iff.rfl⟩
 | cons p l =>
  obtain ⟨g1,g2,g3⟩:=ymNy l p h
  refine ⟨List.pairwise_cons.2 ⟨g2,g1⟩,fun x=>⟨fun hx=>yhQy hx,fun hx=>?_⟩⟩
  rcases List.mem_cons.1 hx with rfl | hx
  ·exact List.mem_cons_self
  ·rcases g3 x hx with rfl | hx
   ·exact List.mem_cons_self
   ·exact List.mem_cons_of_mem _ hx
def edges (l:List G_Row):List Int:=l.flatMap fun r=>[r.f_From,r.f_To]
theorem yiHy {l:List G_Row} {e:Int}:e ∈ edges l ↔ ∃ r ∈ l,e = r.f_From ∨ e = r.f_To:=by simp [edges]
noncomputable def yhwy (l:List G_Row):List Int:=ybuy (fun x y=>x == y) (srtI (edges l))
theorem yAKy (l:List G_Row):(yhwy l).Pairwise (· < ·)∧∀ e,e ∈ yhwy l ↔ e ∈ edges l:=by
 have hs:(srtI (edges l)).Pairwise (·≤·):=by
  have:=List.pairwise_mergeSort (le:=fun x y:Int=>decide (x≤y)) (fun a b c h1 h2=>by simp at *; omega) (fun a b=>by simp; omega) (edges l)
  exact this.imp fun h=>by simpa using h
 obtain ⟨g1,g2⟩:=yyky hs
 exact ⟨g1,fun e=>(g2 e).trans (List.mergeSort_perm _ _).mem_iff⟩
noncomputable def rowsL (l w:List G_Row):List G_Row:=edgeL (fun n=>cov l n && !cov w n) [] (yhwy (l ++ w))
theorem yo1y (l w:List G_Row):Can (rowsL l w)∧∀ n,cov (rowsL l w) n = (cov l n && !cov w n):=by
 obtain ⟨h1,h2⟩:=yAKy (l ++ w)
 have hsame:∀ (m:List G_Row),(∀ r ∈ m,r ∈ l ++ w)→∀ a n,a≤n→(∀ e ∈ edges (l ++ w),a < e→n < e)→cov m n = cov m a:=fun m hm a n han he=>by
  rw [Bool.eq_iff_iff,ydCy,ydCy]
  constructor
  ·rintro ⟨r,hr,h3,h4⟩
   have e1:=he r.f_From (yiHy.2 ⟨r,hm r hr,.inl rfl⟩)
   exact ⟨r,hr,by omega,by omega⟩
  ·rintro ⟨r,hr,h3,h4⟩
   have e1:=he r.f_To (yiHy.2 ⟨r,hm r hr,.inr rfl⟩) h4
   exact ⟨r,hr,by omega,e1⟩
 obtain ⟨g1,g2⟩:=ymsy (fun n=>cov l n && !cov w n) (edges (l ++ w)) (fun a n han he=>by
  rw [hsame l (fun r hr=>by simp [hr]) a n han he,hsame w (fun r hr=>by simp [hr]) a n han he]) (yhwy (l ++ w)) [] h1 (fun e he a _ _=>(h2 e).2 he) ynly (fun p h=>by cases h)
 refine ⟨g1,fun n=>?_⟩
 rw [show rowsL l w = edgeL (fun n=>cov l n && !cov w n) [] (yhwy (l ++ w)) from rfl,g2]
 cases hq:cov l n && !cov w n with
 | false=>simp [cov]
 | true =>
  have:cov l n = true:=by simp at hq; exact hq.1
  obtain ⟨r,hr,h3,h4⟩:=ydCy.1 this
  have hsp:span (yhwy (l ++ w)) n = true:=by
   simp only [span,Bool.and_eq_true,List.any_eq_true,decide_eq_true_eq]
   exact ⟨⟨r.f_From,(h2 _).2 (yiHy.2 ⟨r,by simp [hr],.inl rfl⟩),h3⟩,⟨r.f_To,(h2 _).2 (yiHy.2 ⟨r,by simp [hr],.inr rfl⟩),h4⟩⟩
  rw [hsp]; simp [cov]
end Go.Am
