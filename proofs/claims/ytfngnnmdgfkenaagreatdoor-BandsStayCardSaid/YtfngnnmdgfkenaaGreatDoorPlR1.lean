/- The plain law, in Lean alone: R1, R2, R3. No condition: lemmas for the claim. -/
import Derived.Test.YtfngnnmdgfkenaaGreatDoorPlK
import Derived.Test.YtfngnnmdgfkenaaGreatDoorPlS1
import Derived.Test.YtfngnnmdgfkenaaGreatDoorPlB4
set_option linter.unusedVariables false
set_option linter.unusedSectionVars false
set_option linter.unusedSimpArgs false
set_option maxRecDepth 100000
namespace Go.Am
open Go Go.Proofs
def inRow (r:G_Row) (n:Int):Bool:=decide (r.f_From≤n) && decide (n < r.f_To)
def cov (l:List G_Row) (n:Int):Bool:=l.any fun r=>inRow r n
theorem ycry {r:G_Row} {n:Int}:inRow r n = true ↔ r.f_From≤n∧n < r.f_To:=by simp [inRow]
theorem ybly {l:List G_Row} {n:Int}:cov l n = true ↔ ∃ r ∈ l,r.f_From≤n∧n < r.f_To:=by simp [cov,inRow]
theorem ybuy (r:G_Row) (l:List G_Row) (n:Int):cov (r :: l) n = (inRow r n || cov l n):=rfl
theorem ydZy (a b:List G_Row) (n:Int):cov (a ++ b) n = (cov a n || cov b n):=by simp [cov]
theorem yJPy {a b:List G_Row} (h:a.Perm b) (n:Int):cov a n = cov b n:=by
 rw [Bool.eq_iff_iff,ybly,ybly]
 exact ⟨fun ⟨r,h1,h2⟩=>⟨r,h.mem_iff.1 h1,h2⟩,fun ⟨r,h1,h2⟩=>⟨r,h.mem_iff.2 h1,h2⟩⟩
def Can (l:List G_Row):Prop:=l.Pairwise (fun a b=>a.f_To < b.f_From)∧∀ r ∈ l,r.f_From < r.f_To
theorem yioy:Can []:=⟨.nil,fun r h=>by cases h⟩
theorem ycwy {r:G_Row} {l:List G_Row}:Can (r :: l) ↔ r.f_From < r.f_To∧(∀ x ∈ l,r.f_To < x.f_From)∧Can l:=by
 simp only [Can,List.pairwise_cons,List.mem_cons,forall_eq_or_imp]
 exact ⟨fun ⟨⟨a,b⟩,c,d⟩=>⟨c,a,b,d⟩,fun ⟨c,a,b,d⟩=>⟨⟨a,b⟩,c,d⟩⟩
theorem ygMy {l:List G_Row} {r:G_Row}:Can (l ++ [r]) ↔ Can l∧(∀ x ∈ l,x.f_To < r.f_From)∧r.f_From < r.f_To:=by
 simp only [Can,List.pairwise_append,List.mem_append,List.mem_singleton,forall_eq,List.pairwise_cons,List.not_mem_nil,false_implies,implies_true,true_and,List.Pairwise.nil,and_true]
 constructor
 ·rintro ⟨⟨a,b⟩,c⟩
  exact ⟨⟨a,fun x h=>c x (.inl h)⟩,b,c r (.inr rfl)⟩
 ·rintro ⟨⟨a,b⟩,c,d⟩
  refine ⟨⟨a,c⟩,fun x h=>?_⟩
  rcases h with h | rfl
  ·exact b x h
  ·exact d
theorem ytzy {l:List G_Row} (h:Can l) (hc:∀ n,cov l n = false):l = []:=by
 cases l with
 | nil=>rfl
 | cons r rs =>
  have h1:=(ycwy.1 h).1
  have h2:=hc r.f_From
  rw [ybuy,ycry.2 ⟨Int.le_refl _,h1⟩] at h2
  cases h2
theorem yCvy {r:G_Row} {l:List G_Row} (h:Can (r :: l)) {n:Int} (hn:n < r.f_From):cov (r :: l) n = false:=by
 obtain ⟨h1,h2,h3⟩:=ycwy.1 h
 cases hq:cov (r :: l) n with
 | false=>rfl
 | true =>
  obtain ⟨x,hx,hx1,hx2⟩:=ybly.1 hq
  rcases List.mem_cons.1 hx with rfl | hx
  ·omega
  ·have:=h2 x hx; omega
theorem ydCy {r:G_Row} {l:List G_Row} (h:Can (r :: l)) {n:Int} (hn:n≤r.f_To):cov l n = false:=by
 obtain ⟨h1,h2,h3⟩:=ycwy.1 h
 cases hq:cov l n with
 | false=>rfl
 | true =>
  obtain ⟨x,hx,hx1,hx2⟩:=ybly.1 hq
  have:=h2 x hx; omega
theorem ypky:∀ {a b:List G_Row},Can a→Can b→(∀ n,cov a n = cov b n)→a = b
 | [],b,_,hb,h=>(ytzy hb fun n=>(h n).symm).symm
 | r :: ts,[],ha,_,h=>ytzy ha fun n=>h n
 | r :: ts,s :: bs,ha,hb,h=>by
  have ha':=ycwy.1 ha
  have hb':=ycwy.1 hb
  have r1:cov (r :: ts) r.f_From = true:=by rw [ybuy,ycry.2 ⟨Int.le_refl _,ha'.1⟩]; rfl
  have s1:cov (s :: bs) s.f_From = true:=by rw [ybuy,ycry.2 ⟨Int.le_refl _,hb'.1⟩]; rfl
  have e1:r.f_From = s.f_From:=by
   rcases Int.lt_or_le r.f_From s.f_From with hl | hl
   ·have:=yCvy hb hl; rw [← h,r1] at this; cases this
   ·rcases Int.lt_or_le s.f_From r.f_From with hl2 | hl2
    ·have:=yCvy ha hl2; rw [h,s1] at this; cases this
    ·omega
  have e2:r.f_To = s.f_To:=by
   rcases Int.lt_or_le r.f_To s.f_To with hl | hl
   ·have h1:=h r.f_To
    rw [ybuy,ybuy,ydCy ha (Int.le_refl _),ycry.2 (show s.f_From≤r.f_To∧r.f_To < s.f_To by omega)] at h1
    have:inRow r r.f_To = false:=by simp [inRow]
    rw [this] at h1; cases h1
   ·rcases Int.lt_or_le s.f_To r.f_To with hl2 | hl2
    ·have h1:=h s.f_To
     rw [ybuy,ybuy,ydCy hb (Int.le_refl _),ycry.2 (show r.f_From≤s.f_To∧s.f_To < r.f_To by omega)] at h1
     have:inRow s s.f_To = false:=by simp [inRow]
     rw [this] at h1; cases h1
    ·omega
  have e3:r = s:=by cases r; cases s; simp only at e1 e2; rw [e1,e2]
  subst e3
  rw [ypky ha'.2.2 hb'.2.2 fun n=>by
   rcases Int.lt_or_le r.f_To n with hl | hl
   ·have h1:=h n
    have:inRow r n = false:=by
     cases hq:inRow r n with
     | false=>rfl
     | true=>have:=ycry.1 hq; omega
    rw [ybuy,ybuy,this] at h1
    simpa using h1
   ·rw [ydCy ha hl,ydCy hb hl]]
def addJ (out:List G_Row) (r:G_Row):List G_Row:=match out.getLast? with
 | none=>out ++ [r]
 | some p=>bif decide (r.f_From≤p.f_To) then out.dropLast ++ [⟨p.f_From,if r.f_To > p.f_To then r.f_To else p.f_To⟩] else out ++ [r]
theorem yq5y (r:G_Row):addJ [] r = [r]:=rfl
theorem yhqy (pre:List G_Row) (p r:G_Row):addJ (pre ++ [p]) r = bif decide (r.f_From≤p.f_To) then pre ++ [⟨p.f_From,if r.f_To > p.f_To then r.f_To else p.f_To⟩] else pre ++ [p] ++ [r]:=by
 unfold addJ
 rw [show (pre ++ [p]).getLast? = some p by simp,List.dropLast_concat]
theorem yiny {α:Type} (l:List α):l = [] ∨ ∃ pre p,l = pre ++ [p]:=by
 rcases List.eq_nil_or_concat l with h | ⟨pre,p,h⟩
 ·exact .inl h
 ·exact .inr ⟨pre,p,by simpa using h⟩
theorem yAVy {out:List G_Row} {r:G_Row} (h:Can out) (hr:r.f_From < r.f_To) (hle:∀ p ∈ out,p.f_From≤r.f_From) :
  Can (addJ out r)∧(∀ n,cov (addJ out r) n = (cov out n || inRow r n))∧∀ p ∈ addJ out r,p.f_From≤r.f_From:=by
 rcases yiny out with rfl | ⟨pre,p,rfl⟩
 ·rw [yq5y]
  exact ⟨ycwy.2 ⟨hr,(fun x h=>by cases h),yioy⟩,(fun n=>by simp [cov]),(fun p hp=>by simp at hp; rw [hp]; exact Int.le_refl _)⟩
 ·obtain ⟨h1,h2,h3⟩:=ygMy.1 h
  have hp:=hle p (by simp)
  rw [yhqy]
  by_cases hc:r.f_From≤p.f_To
  ·rw [decide_eq_true hc]
   simp only [cond_true]
   refine ⟨ygMy.2 ⟨h1,h2,?_⟩,fun n=>?_,fun x hx=>?_⟩
   ·simp only; split <;> omega
   ·rw [ydZy,ydZy,Bool.or_assoc]
    congr 1
    rw [Bool.eq_iff_iff,Bool.or_eq_true,ybly,ybly,ycry]
    simp only [List.mem_singleton,exists_eq_left]
    split <;> omega
   ·rcases List.mem_append.1 hx with hx | hx
    ·exact hle x (by simp [hx])
    ·simp at hx; rw [hx]; exact hp
  ·rw [decide_eq_false hc]
   simp only [cond_false]
   refine ⟨ygMy.2 ⟨h,fun x hx=>?_,hr⟩,fun n=>?_,fun x hx=>?_⟩
   ·rcases List.mem_append.1 hx with hx | hx
    ·have:=h2 x hx; omega
    ·simp at hx; rw [hx]; omega
   ·rw [ydZy]; congr 1; simp [cov]
   ·rcases List.mem_append.1 hx with hx | hx
    ·exact hle x hx
    ·simp at hx; rw [hx]; exact Int.le_refl _
theorem yxpy:∀ (rs out:List G_Row),Can out→rs.Pairwise (fun a b=>a.f_From≤b.f_From)→(∀ r ∈ rs,r.f_From < r.f_To)→(∀ p ∈ out,∀ r ∈ rs,p.f_From≤r.f_From) →
  Can (rs.foldl addJ out)∧∀ n,cov (rs.foldl addJ out) n = (cov out n || cov rs n)
 | [],out,h,_,_,_=>⟨h,fun n=>by simp [cov]⟩
 | r :: rs,out,h,hs,hr,hle=>by
  obtain ⟨g1,g2,g3⟩:=yAVy h (hr r (by simp)) (fun p hp=>hle p hp r (by simp))
  have hs':=List.pairwise_cons.1 hs
  obtain ⟨f1,f2⟩:=yxpy rs (addJ out r) g1 hs'.2 (fun x hx=>hr x (by simp [hx])) (fun p hp x hx=>Int.le_trans (g3 p hp) (hs'.1 x hx))
  refine ⟨f1,fun n=>?_⟩
  rw [List.foldl_cons,f2,g2,ybuy,Bool.or_assoc]
def addE (out:List G_Row) (a b:Int):List G_Row:=match out.getLast? with
 | none=>out ++ [⟨a,b⟩]
 | some p=>bif p.f_To == a then out.dropLast ++ [⟨p.f_From,b⟩] else out ++ [⟨a,b⟩]
theorem yPhy {out:List G_Row} {a b:Int} (h:a < b) (hle:∀ p ∈ out,p.f_To≤a):addE out a b = addJ out ⟨a,b⟩:=by
 rcases yiny out with rfl | ⟨pre,p,rfl⟩
 ·rfl
 ·have hp:=hle p (by simp)
  rw [yhqy]
  unfold addE
  rw [show (pre ++ [p]).getLast? = some p by simp,List.dropLast_concat]
  simp only
  by_cases hc:p.f_To = a
  ·rw [show (p.f_To == a) = true by simp [hc],decide_eq_true (by omega)]
   simp only [cond_true]
   rw [if_pos (by omega)]
  ·rw [show (p.f_To == a) = false by simp [hc],decide_eq_false (by omega)]
   simp only [cond_false]
def edgeL (f:Int→Bool):List G_Row→List Int→List G_Row
 | out,a :: b :: rest=>edgeL f (bif f a then addE out a b else out) (b :: rest)
 | out,_=>out
def span (es:List Int) (n:Int):Bool:=es.any (fun e=>decide (e≤n)) && es.any (fun e=>decide (n < e))
theorem yyCy {a b:Int} {rest:List Int} (h:(a :: b :: rest).Pairwise (· < ·)) (n:Int):span (a :: b :: rest) n = ((decide (a≤n) && decide (n < b)) || span (b :: rest) n):=by
 have h':=List.pairwise_cons.1 h
 have h2:=List.pairwise_cons.1 h'.2
 have hab:=h'.1 b (by simp)
 rw [Bool.eq_iff_iff]
 simp only [span,Bool.or_eq_true,Bool.and_eq_true,List.any_cons,decide_eq_true_eq]
 constructor
 ·rintro ⟨h3,h4⟩
  by_cases hn:n < b
  ·left
   refine ⟨?_,hn⟩
   rcases h3 with h3 | h3 | h3
   ·exact h3
   ·omega
   ·rw [List.any_eq_true] at h3
    obtain ⟨e,he,hq⟩:=h3
    have:=h2.1 e he
    have:=of_decide_eq_true hq
    omega
  ·right
   refine ⟨.inl (by omega),?_⟩
   rcases h4 with h4 | h4
   ·omega
   ·exact h4
 ·rintro (⟨h3,h4⟩ | ⟨h3,h4⟩)
  ·exact ⟨.inl h3,.inr (.inl h4)⟩
  ·exact ⟨.inr h3,.inr h4⟩
theorem yoay (f:Int→Bool) (E:List Int) (hf:∀ a n,a≤n→(∀ e ∈ E,a < e→n < e)→f n = f a):∀ (es:List Int) (out:List G_Row),es.Pairwise (· < ·)→(∀ e ∈ E,∀ a,es.head? = some a→a≤e→e ∈ es)→Can out→(∀ p ∈ out,∀ a ∈ es,p.f_To≤a) →
  Can (edgeL f out es)∧∀ n,cov (edgeL f out es) n = (cov out n || (span es n && f n))
 | [],out,_,_,h,_=>⟨h,fun n=>by simp [edgeL,span]⟩
 | [a],out,_,_,h,_=>⟨h,fun n=>by
   have:span [a] n = false:=by
    cases hq:span [a] n with
    | false=>rfl
    | true=>simp [span] at hq; omega
   rw [this]; simp [edgeL]⟩
 | a :: b :: rest,out,hs,hE,h,hle=>by
  have h':=List.pairwise_cons.1 hs
  have h2:=List.pairwise_cons.1 h'.2
  have hab:=h'.1 b (by simp)
  have hE':∀ e ∈ E,∀ x,(b :: rest).head? = some x→x≤e→e ∈ b :: rest:=fun e he x hx hxe=>by
   simp at hx; subst hx
   have:=hE e he a rfl (by omega)
   rcases List.mem_cons.1 this with rfl | this
   ·omega
   ·exact this
  have hfn:∀ n,a≤n→n < b→f n = f a:=fun n h1 h3=>hf a n h1 fun e he hae=>by
   have:=hE e he a rfl (by omega)
   rcases List.mem_cons.1 this with rfl | this
   ·omega
   ·rcases List.mem_cons.1 this with rfl | this
    ·exact h3
    ·have:=h2.1 e this; omega
  unfold edgeL
  cases hfa:f a with
  | false =>
   simp only [cond_false]
   obtain ⟨g1,g2⟩:=yoay f E hf (b :: rest) out h'.2 hE' h (fun p hp x hx=>hle p hp x (by simp [hx]))
   refine ⟨g1,fun n=>?_⟩
   rw [g2,yyCy hs]
   by_cases hn:a≤n∧n < b
   ·have:=hfn n hn.1 hn.2
    rw [this,hfa]; simp
   ·have:(decide (a≤n) && decide (n < b)) = false:=by
     cases hq:(decide (a≤n) && decide (n < b)) with
     | false=>rfl
     | true=>simp at hq; exact absurd hq hn
    rw [this,Bool.false_or]
  | true =>
   simp only [cond_true]
   have hle':∀ p ∈ out,p.f_To≤a:=fun p hp=>hle p hp a (by simp)
   rw [yPhy hab hle']
   obtain ⟨k1,k2,k3⟩:=yAVy (r:=⟨a,b⟩) h hab (fun p hp=>by have:=h.2 p hp; have:=hle' p hp; simp only; omega)
   have hto:∀ p ∈ addJ out ⟨a,b⟩,∀ x ∈ b :: rest,p.f_To≤x:=fun p hp x hx=>by
    have hbx:b≤x:=by
     rcases List.mem_cons.1 hx with rfl | hx
     ·exact Int.le_refl _
     ·have:=h2.1 x hx; omega
    rcases yiny out with rfl | ⟨pre,q,rfl⟩
    ·rw [yq5y] at hp; simp at hp; subst hp; exact hbx
    ·rw [yhqy] at hp
     have hq:=hle' q (by simp)
     by_cases hc:a≤q.f_To
     ·rw [show decide ((⟨a,b⟩:G_Row).f_From≤q.f_To) = true from decide_eq_true hc] at hp
      simp only [cond_true] at hp
      rcases List.mem_append.1 hp with hp | hp
      ·have:=hle' p (by simp [hp]); omega
      ·simp at hp; subst hp; simp only; split <;> omega
     ·rw [show decide ((⟨a,b⟩:G_Row).f_From≤q.f_To) = false from decide_eq_false hc] at hp
      simp only [cond_false] at hp
      rcases List.mem_append.1 hp with hp | hp
      ·have:=hle' p hp; omega
      ·simp at hp; subst hp; exact hbx
   obtain ⟨g1,g2⟩:=yoay f E hf (b :: rest) (addJ out ⟨a,b⟩) h'.2 hE' k1 hto
   refine ⟨g1,fun n=>?_⟩
   rw [g2,k2,yyCy hs,Bool.or_assoc]
   congr 1
   by_cases hn:a≤n∧n < b
   ·have:=hfn n hn.1 hn.2
    rw [this,hfa]; simp [inRow,hn.1,hn.2]
   ·have:(decide (a≤n) && decide (n < b)) = false:=by
     cases hq:(decide (a≤n) && decide (n < b)) with
     | false=>rfl
     | true=>simp at hq; exact absurd hq hn
    have h5:inRow ⟨a,b⟩ n = false:=this
    rw [this,h5]; simp only [Bool.false_or]
def woOne (to:Int):Int→List G_Row→List G_Row→List G_Row
 | from_,out,[]=>bif decide (from_ < to) then out ++ [⟨from_,to⟩] else out
 | from_,out,o :: os=>bif decide (o.f_To≤from_) then woOne to from_ out os else bif decide (o.f_From ≥ to) then woOne to from_ out os else woOne to o.f_To (bif decide (o.f_From > from_) then out ++ [⟨from_,o.f_From⟩] else out) os
theorem yhmy (to:Int):∀ (os:List G_Row) (fr:Int) (out:List G_Row),Can os→Can out→(∀ p ∈ out,p.f_To < fr) →
  Can (woOne to fr out os)∧(∀ p ∈ woOne to fr out os,p ∈ out ∨ p.f_To≤to)∧∀ n,cov (woOne to fr out os) n = (cov out n || (decide (fr≤n) && (decide (n < to) && !cov os n)))
 | [],fr,out,_,h,hlt=>by
  unfold woOne
  by_cases hc:fr < to
  ·rw [decide_eq_true hc]
   simp only [cond_true]
   refine ⟨ygMy.2 ⟨h,hlt,hc⟩,fun p hp=>?_,fun n=>?_⟩
   ·rcases List.mem_append.1 hp with hp | hp
    ·exact .inl hp
    ·simp at hp; rw [hp]; exact .inr (Int.le_refl _)
   ·rw [ydZy]; congr 1; simp [cov,inRow]
  ·rw [decide_eq_false hc]
   simp only [cond_false]
   refine ⟨h,fun p hp=>.inl hp,fun n=>?_⟩
   have:(decide (fr≤n) && decide (n < to)) = false:=by
    cases hq:(decide (fr≤n) && decide (n < to)) with
    | false=>rfl
    | true=>simp at hq; omega
   rw [← Bool.and_assoc,this]; simp
 | o :: os,fr,out,hos,h,hlt=>by
  obtain ⟨o1,o2,o3⟩:=ycwy.1 hos
  unfold woOne
  by_cases hc:o.f_To≤fr
  ·rw [decide_eq_true hc]
   simp only [cond_true]
   obtain ⟨g1,g2,g3⟩:=yhmy to os fr out o3 h hlt
   refine ⟨g1,g2,fun n=>?_⟩
   rw [g3,ybuy]
   by_cases hn:fr≤n
   ·have:inRow o n = false:=by
     cases hq:inRow o n with
     | false=>rfl
     | true=>have:=ycry.1 hq; omega
    rw [this,Bool.false_or]
   ·rw [decide_eq_false hn]; simp
  ·rw [decide_eq_false hc]
   simp only [cond_false]
   by_cases hc2:o.f_From ≥ to
   ·rw [decide_eq_true hc2]
    simp only [cond_true]
    obtain ⟨g1,g2,g3⟩:=yhmy to os fr out o3 h hlt
    refine ⟨g1,g2,fun n=>?_⟩
    rw [g3,ybuy]
    by_cases hn:n < to
    ·have:inRow o n = false:=by
      cases hq:inRow o n with
      | false=>rfl
      | true=>have:=ycry.1 hq; omega
     rw [this,Bool.false_or]
    ·rw [decide_eq_false hn]; simp
   ·rw [decide_eq_false hc2]
    simp only [cond_false]
    have htail:∀ n,n≤o.f_To→cov os n = false:=fun n hn=>ydCy hos hn
    by_cases hc3:o.f_From > fr
    ·rw [decide_eq_true hc3]
     simp only [cond_true]
     obtain ⟨g1,g2,g3⟩:=yhmy to os o.f_To (out ++ [⟨fr,o.f_From⟩]) o3 (ygMy.2 ⟨h,hlt,hc3⟩) (fun p hp=>by
      rcases List.mem_append.1 hp with hp | hp
      ·have:=hlt p hp; omega
      ·simp at hp; rw [hp]; exact o1)
     refine ⟨g1,fun p hp=>?_,fun n=>?_⟩
     ·rcases g2 p hp with hp | hp
      ·rcases List.mem_append.1 hp with hp | hp
       ·exact .inl hp
       ·simp at hp; rw [hp]; simp only; exact .inr (by omega)
      ·exact .inr hp
     ·rw [g3,ydZy,Bool.or_assoc,ybuy o os]
      congr 1
      rw [show cov [(⟨fr,o.f_From⟩:G_Row)] n = (decide (fr≤n) && decide (n < o.f_From)) by simp [cov,inRow],show inRow o n = (decide (o.f_From≤n) && decide (n < o.f_To)) from rfl]
      rcases (by omega:n < fr ∨ (fr≤n∧n < o.f_From) ∨ (o.f_From≤n∧n < o.f_To) ∨ o.f_To≤n) with hh | ⟨hh,hh2⟩ | ⟨hh,hh2⟩ | hh
      ·simp [show ¬ fr≤n by omega,show ¬ o.f_To≤n by omega]
      ·simp [htail n (by omega),hh,hh2,show n < to by omega,show ¬ o.f_From≤n by omega]
      ·simp [show ¬ n < o.f_From by omega,show ¬ o.f_To≤n by omega,hh,hh2]
      ·simp [show ¬ n < o.f_From by omega,show ¬ n < o.f_To by omega,show fr≤n by omega,hh]
    ·rw [decide_eq_false hc3]
     simp only [cond_false]
     obtain ⟨g1,g2,g3⟩:=yhmy to os o.f_To out o3 h (fun p hp=>by have:=hlt p hp; omega)
     refine ⟨g1,g2,fun n=>?_⟩
     rw [g3,ybuy]
     congr 1
     rw [show inRow o n = (decide (o.f_From≤n) && decide (n < o.f_To)) from rfl]
     rcases (by omega:n < fr ∨ (fr≤n∧n < o.f_To) ∨ o.f_To≤n) with hh | ⟨hh,hh2⟩ | hh
     ·simp [show ¬ fr≤n by omega,show ¬ o.f_To≤n by omega]
     ·simp [show ¬ o.f_To≤n by omega,show o.f_From≤n by omega,hh2]
     ·simp [show ¬ n < o.f_To by omega,show fr≤n by omega,hh]
def ycty (os:List G_Row) (out:List G_Row):List G_Row→List G_Row
 | []=>out
 | r :: rs=>ycty os (woOne r.f_To r.f_From out os) rs
theorem yqry (os:List G_Row) (hos:Can os):∀ (l out:List G_Row),Can l→Can out→(∀ p ∈ out,∀ r ∈ l,p.f_To < r.f_From) →
  Can (ycty os out l)∧∀ n,cov (ycty os out l) n = (cov out n || (cov l n && !cov os n))
 | [],out,_,h,_=>⟨h,fun n=>by simp [ycty,cov]⟩
 | r :: rs,out,hl,h,hlt=>by
  obtain ⟨r1,r2,r3⟩:=ycwy.1 hl
  obtain ⟨g1,g2,g3⟩:=yhmy r.f_To os r.f_From out hos h (fun p hp=>hlt p hp r (by simp))
  obtain ⟨f1,f2⟩:=yqry os hos rs (woOne r.f_To r.f_From out os) r3 g1 (fun p hp x hx=>by
   rcases g2 p hp with hp | hp
   ·exact hlt p hp x (by simp [hx])
   ·have:=r2 x hx; omega)
  unfold ycty
  refine ⟨f1,fun n=>?_⟩
  rw [f2,g3,ybuy,Bool.or_assoc]
  congr 1
  rw [← Bool.and_assoc]
  show ((inRow r n && !cov os n) || _) = _
  cases inRow r n <;> cases cov rs n <;> cases cov os n <;> rfl
theorem yEwy {J:List G_Row} (h:Can J) {u:G_Row} (hu:u.f_From < u.f_To):(J.any fun r=>decide (r.f_From≤u.f_From) && decide (u.f_To≤r.f_To)) = true ↔ ∀ n,u.f_From≤n→n < u.f_To→cov J n = true:=by
 simp only [List.any_eq_true,Bool.and_eq_true,decide_eq_true_eq]
 constructor
 ·rintro ⟨r,hr,h1,h2⟩ n h3 h4
  exact ybly.2 ⟨r,hr,by omega,by omega⟩
 ·intro hall
  obtain ⟨r,hr,h1,h2⟩:=ybly.1 (hall u.f_From (Int.le_refl _) hu)
  refine ⟨r,hr,h1,?_⟩
  rcases Int.lt_or_le r.f_To u.f_To with hx | hx
  ·obtain ⟨s,hs,h3,h4⟩:=ybly.1 (hall r.f_To (by omega) hx)
   exfalso
   obtain ⟨i,hi,rfl⟩:=List.getElem_of_mem hr
   obtain ⟨j,hj,rfl⟩:=List.getElem_of_mem hs
   have hp:=List.pairwise_iff_getElem.1 h.1
   rcases Nat.lt_trichotomy i j with hij | hij | hij
   ·have:=hp i j hi hj hij; omega
   ·subst hij; omega
   ·have:=hp j i hj hi hij; omega
  ·exact hx
end Go.Am
set_option linter.unusedVariables false
set_option linter.unusedSectionVars false
set_option linter.unusedSimpArgs false
set_option maxRecDepth 100000
namespace Go.Am
open Go Go.Proofs
variable [Fuel]
def BigR (l:List G_Row):Prop:=∀ r ∈ l,-4398046511104≤r.f_From∧r.f_From≤4398046511104
theorem z75z_is {x y:G_Row} (hx:-4398046511104≤x.f_From∧x.f_From≤4398046511104) (hy:-4398046511104≤y.f_From∧y.f_From≤4398046511104) (R:Type) (k:Int→Option R):z75z x y k = k (x.f_From - y.f_From):=by
 simp only [z75z,z75z_]
 rw [yaky (by omega) (by omega)]
theorem yGpy {l:List G_Row} (hb:BigR l) (hl:l.length≤1000000):∃ ys:List G_Row,ys.Perm l∧ys.Pairwise (fun a b=>a.f_From≤b.f_From)∧∀ (R:Type) (k:List G_Row→Option R),z64z l k = k ys:=by
 obtain ⟨ys,h1,h2,h3⟩:=yijy (call:=@z75z _) (xs:=l) (c:=fun a b:G_Row=>a.f_From - b.f_From) (by omega) (fun x hx y hy=>z75z_is (hb x hx) (hb y hy))
  ⟨fun x y _ _=>by omega,fun x y z _ _ _ a b=>by omega,fun x y _ _=>by omega⟩
 exact ⟨ys,h1,h2.imp fun h=>by omega,h3⟩
theorem yAFy (out:List G_Row) (r:G_Row):(addJ out r).length≤out.length + 1:=by
 rcases yiny out with rfl | ⟨pre,p,rfl⟩
 ·simp [yq5y]
 ·rw [yhqy]
  cases decide (r.f_From≤p.f_To) <;> simp
theorem yvMy:∀ (rs out:List G_Row),(rs.foldl addJ out).length≤out.length + rs.length
 | [],out=>by simp
 | r :: rs,out=>by
  have h1:=yvMy rs (addJ out r)
  have h2:=yAFy out r
  simp only [List.foldl_cons,List.length_cons]
  omega
theorem yKiy {α:Type} {pre:List α} {p:α} {R:Type} (k:α→Option R) (hl:pre.length≤1000000) :
  inr (pre ++ [p]) (w64 (((pre ++ [p]).length:Int) - 1)) (at_ (pre ++ [p]) (w64 (((pre ++ [p]).length:Int) - 1)) k) = k p:=by
 have e:w64 (((pre ++ [p]).length:Int) - 1) = (pre.length:Int):=by rw [yaky (by simp <;> omega) (by simp <;> omega)]; simp
 rw [e,ybay (by simp),yaXy (yePy pre p [])]
theorem yDLy {α:Type} {pre:List α} {p:α} (hl:pre.length≤1000000):w64 (((pre ++ [p]).length:Int) - 1) = (pre.length:Int):=by
 rw [yaky (by simp <;> omega) (by simp <;> omega)]; simp
theorem z25z_loop (l:List G_Row) (hl:l.length≤1000000):∀ (xs:List G_Row) (n i:Nat) (out:List G_Row),l.drop i = xs→xs.length < n→out.length≤i →
  ∀ (R:Type) (e0:List G_Row→Option R),z25z_L4 ycGy n (l.length:Int) (i:Int) l out e0 = e0 (xs.foldl addJ out)
 | _,0,_,_,_,h,_,_,_=>by omega
 | [],n + 1,i,out,h,_,_,R,e0=>by rw [z25z_L4,ya1y h]; rfl
 | r :: rs,n + 1,i,out,h,hn,ho,R,e0=>by
  have h':=yaly h
  have ih:=z25z_loop l hl rs n (i + 1) (addJ out r) h'.2.2.1 (by simp at hn; omega) (by have:=yAFy out r; omega) R e0
  rw [z25z_L4,yaZy h]
  simp only [ycGy] at ih
  simp only [cond_true,ygHy h,yity h,ycGy,yasy (show i < 4611686018427387904 by omega)]
  rw [List.foldl_cons,← ih]
  rcases yiny out with rfl | ⟨pre,p,rfl⟩
  ·rw [decide_eq_false (show ¬ w64 ((([]:List G_Row).length:Int) - 1) ≥ 0 by rw [yaky (by simp) (by simp)]; simp)]
   simp only [cond_false,room1 [] r 16 (by simp) (by omega)]
   rfl
  ·have hpl:pre.length≤1000000:=by simp at ho; omega
   rw [decide_eq_true (show w64 (((pre ++ [p]).length:Int) - 1) ≥ 0 by rw [yDLy hpl]; omega)]
   simp only [cond_true,yKiy _ hpl,room1 (pre ++ [p]) r 16 (by simp at ho ⊢; omega) (by omega)]
   rw [yhqy]
   cases decide (r.f_From≤p.f_To) with
   | true=>simp only [cond_true,yDLy hpl,yeOy,ykny]
   | false=>simp only [cond_false]
theorem z25z_is {l:List G_Row} (hb:BigR l) (hr:∀ r ∈ l,r.f_From < r.f_To) (hl:l.length≤1000000):∃ J,Can J∧(∀ n,cov J n = cov l n)∧J.length≤l.length∧∀ (R:Type) (k:List G_Row→Option R),z25z l k = k J:=by
 obtain ⟨ys,h1,h2,h3⟩:=yGpy hb hl
 have hlen:=h1.length_eq
 obtain ⟨f1,f2⟩:=yxpy ys [] yioy h2 (fun r h=>hr r (h1.mem_iff.1 h)) (fun p h=>by cases h)
 have h4:∀ (R:Type) (e0:List G_Row→Option R),z25z_L4 ycGy ycGy.N (ys.length:Int) 0 ys [] e0 = e0 (ys.foldl addJ []):=fun R e0 =>
  z25z_loop ys (by omega) ys NN 0 [] rfl (by have:=NN_ok; omega) (by simp) R e0
 refine ⟨ys.foldl addJ [],f1,fun n=>by rw [f2,yJPy h1]; simp [cov],by have:=yvMy ys []; simp at this; omega,fun R k=>?_⟩
 simp only [ycGy] at h4
 simp only [z25z,z25z_,ycGy,h3,h4]
theorem yjwy (to:Int):∀ (os:List G_Row) (fr:Int) (out:List G_Row),(woOne to fr out os).length≤out.length + os.length + 1
 | [],fr,out=>by unfold woOne; cases decide (fr < to) <;> simp
 | o :: os,fr,out=>by
  unfold woOne
  have h1:=yjwy to os fr out
  have h2:=yjwy to os o.f_To out
  have h3:=yjwy to os o.f_To (out ++ [⟨fr,o.f_From⟩])
  simp at h3
  cases decide (o.f_To≤fr) <;> cases decide (o.f_From ≥ to) <;> cases decide (o.f_From > fr) <;> simp <;> omega
theorem z55z_in (os:List G_Row) (hos:os.length≤1000) (l:List G_Row) (p q:Int) (r:G_Row) (B:Nat) (hB:B≤900000) (R:Type) (K:List G_Row→Option R)
  (e0:List G_Row→Int→List G_Row→Int→Int→G_Row→List G_Row→Option R) (he:∀ fr out,out.length≤B→e0 os fr l p q r out = K (bif decide (fr < r.f_To) then out ++ [⟨fr,r.f_To⟩] else out)) :
  ∀ (xs:List G_Row) (n i:Nat) (fr:Int) (out:List G_Row),os.drop i = xs→xs.length < n→out.length + xs.length≤B →
   z55z_L7 NN n os fr l p q os (os.length:Int) (i:Int) r out e0 = K (woOne r.f_To fr out xs)
 | _,0,_,_,_,_,h,_=>by omega
 | [],n + 1,i,fr,out,h,_,hb=>by rw [z55z_L7,ya1y h]; simp only [cond_false]; rw [he fr out (by simpa using hb)]; rfl
 | o :: xs,n + 1,i,fr,out,h,hn,hb=>by
  have h':=yaly h
  simp at hb hn
  have ih1:=z55z_in os hos l p q r B hB R K e0 he xs n (i + 1) fr out h'.2.2.1 (by omega) (by omega)
  have ih2:=z55z_in os hos l p q r B hB R K e0 he xs n (i + 1) o.f_To out h'.2.2.1 (by omega) (by omega)
  have ih3:=z55z_in os hos l p q r B hB R K e0 he xs n (i + 1) o.f_To (out ++ [⟨fr,o.f_From⟩]) h'.2.2.1 (by omega) (by simp; omega)
  rw [z55z_L7,yaZy h]
  simp only [cond_true,ybcy h,yasy (show i < 4611686018427387904 by omega),ih1,ih2,ih3,room1 out _ 16 (show out.length≤1000000 by omega) (by omega),woOne]
  cases decide (o.f_To≤fr) <;> cases decide (o.f_From ≥ r.f_To) <;> cases decide (o.f_From > fr) <;> rfl
theorem z55z_loop (os:List G_Row) (hos:os.length≤500) (l:List G_Row) (hl:l.length≤500):∀ (xs:List G_Row) (n i:Nat) (out:List G_Row),l.drop i = xs→xs.length < n→out.length≤600 * i →
  ∀ (R:Type) (e0:List G_Row→Option R),z55z_L3 NN n os l (l.length:Int) (i:Int) out e0 = e0 (ycty os out xs)
 | _,0,_,_,_,h,_,_,_=>by omega
 | [],n + 1,i,out,h,_,_,R,e0=>by rw [z55z_L3,ya1y h]; rfl
 | r :: xs,n + 1,i,out,h,hn,ho,R,e0=>by
  have h':=yaly h
  simp at hn
  have hw:=yjwy r.f_To os r.f_From out
  have ih:=z55z_loop os hos l hl xs n (i + 1) (woOne r.f_To r.f_From out os) h'.2.2.1 (by omega) (by omega) R e0
  rw [z55z_L3,yaZy h]
  simp only [cond_true,ybcy h,yasy (show i < 4611686018427387904 by omega)]
  refine (z55z_in os (by omega) l (l.length:Int) (i:Int) r (out.length + os.length) (by omega) R (fun o=>z55z_L3 NN n os l (l.length:Int) ((i + 1:Nat):Int) o e0) _ (fun fr o hb=>?_) os NN 0 r.f_From out rfl (by have:=NN_ok; omega) (by omega)).trans ih
  simp only [room1 o _ 16 (show o.length≤1000000 by omega) (by omega),yasy (show i < 4611686018427387904 by omega)]
  cases decide (fr < r.f_To) <;> rfl
theorem z55z_is {l os:List G_Row} (hl:l.length≤500) (hos:os.length≤500) (R:Type) (k:List G_Row→Option R):z55z l os k = k (ycty os [] l):=by
 have h:z55z_L3 NN NN os l (l.length:Int) 0 [] (fun e48=>k e48) = k (ycty os [] l):=z55z_loop os hos l hl l NN 0 [] rfl (by have:=NN_ok; omega) (by simp) R _
 simp only [z55z,z55z_,h]
theorem yopy:∀ (l:List Int) (p:Int),(p :: l).Pairwise (·≤·)→(yaPy (fun x y=>x == y) p l).Pairwise (· < ·)∧(∀ x ∈ yaPy (fun x y=>x == y) p l,p < x)∧∀ x ∈ l,x = p ∨ x ∈ yaPy (fun x y=>x == y) p l
 | [],p,_=>⟨.nil,(fun x h=>by cases h),(fun x h=>by cases h)⟩
 | y :: ys,p,h=>by
  have h1:=List.pairwise_cons.1 h
  have hpy:=h1.1 y (by simp)
  unfold yaPy
  by_cases hy:y = p
  ·subst hy
   simp only [beq_self_eq_true,if_true]
   obtain ⟨g1,g2,g3⟩:=yopy ys y h1.2
   refine ⟨g1,g2,fun x hx=>?_⟩
   rcases List.mem_cons.1 hx with rfl | hx
   ·exact .inl rfl
   ·exact g3 x hx
  ·have:(y == p) = false:=by simp [hy]
   simp only [this,Bool.false_eq_true,if_false]
   obtain ⟨g1,g2,g3⟩:=yopy ys y h1.2
   refine ⟨List.pairwise_cons.2 ⟨g2,g1⟩,fun x hx=>?_,fun x hx=>?_⟩
   ·rcases List.mem_cons.1 hx with rfl | hx
    ·omega
    ·have:=g2 x hx; omega
   ·rcases List.mem_cons.1 hx with rfl | hx
    ·exact .inr (by simp)
    ·rcases g3 x hx with rfl | hx
     ·exact .inr (by simp)
     ·exact .inr (by simp [hx])
theorem yBzy {l:List Int} (h:l.Pairwise (·≤·)):(yb2y (fun x y=>x == y) l).Pairwise (· < ·)∧∀ x,x ∈ yb2y (fun x y=>x == y) l ↔ x ∈ l:=by
 cases l with
 | nil=>exact ⟨.nil,fun x=>Iff.rfl⟩
 | cons p l =>
  obtain ⟨g1,g2,g3⟩:=yopy l p h
  refine ⟨List.pairwise_cons.2 ⟨g2,g1⟩,fun x=>⟨fun hx=>yn8y hx,fun hx=>?_⟩⟩
  rcases List.mem_cons.1 hx with rfl | hx
  ·exact List.mem_cons_self
  ·rcases g3 x hx with rfl | hx
   ·exact List.mem_cons_self
   ·exact List.mem_cons_of_mem _ hx
def edges (l:List G_Row):List Int:=l.flatMap fun r=>[r.f_From,r.f_To]
theorem yjgy {l:List G_Row} {e:Int}:e ∈ edges l ↔ ∃ r ∈ l,e = r.f_From ∨ e = r.f_To:=by simp [edges]
theorem yHMy (l:List G_Row):(edges l).length = 2 * l.length:=by
 induction l with
 | nil=>rfl
 | cons r rs ih=>simp [edges] at ih ⊢; omega
noncomputable def ydRy (l:List G_Row):List Int:=yb2y (fun x y=>x == y) (srtI (edges l))
theorem yEQy (l:List G_Row):(ydRy l).Pairwise (· < ·)∧∀ e,e ∈ ydRy l ↔ e ∈ edges l:=by
 have hs:(srtI (edges l)).Pairwise (·≤·):=by
  have:=List.pairwise_mergeSort (le:=fun x y:Int=>decide (x≤y)) (fun a b c h1 h2=>by simp at *; omega) (fun a b=>by simp; omega) (edges l)
  exact this.imp fun h=>by simpa using h
 obtain ⟨g1,g2⟩:=yBzy hs
 exact ⟨g1,fun e=>(g2 e).trans (List.mergeSort_perm _ _).mem_iff⟩
theorem yBry (l:List G_Row):(ydRy l).length≤2 * l.length:=by
 unfold ydRy
 have h1:=yjdy (fun x y:Int=>x == y) (srtI (edges l))
 have h2:(srtI (edges l)).length = (edges l).length:=List.length_mergeSort _
 have h3:=yHMy l
 omega
noncomputable def rowsL (l w:List G_Row):List G_Row:=edgeL (fun n=>cov l n && !cov w n) [] (ydRy (l ++ w))
theorem ygAy (l w:List G_Row):Can (rowsL l w)∧∀ n,cov (rowsL l w) n = (cov l n && !cov w n):=by
 obtain ⟨h1,h2⟩:=yEQy (l ++ w)
 have hsame:∀ (m:List G_Row),(∀ r ∈ m,r ∈ l ++ w)→∀ a n,a≤n→(∀ e ∈ edges (l ++ w),a < e→n < e)→cov m n = cov m a:=fun m hm a n han he=>by
  rw [Bool.eq_iff_iff,ybly,ybly]
  constructor
  ·rintro ⟨r,hr,h3,h4⟩
   have e1:=he r.f_From (yjgy.2 ⟨r,hm r hr,.inl rfl⟩)
   exact ⟨r,hr,by omega,by omega⟩
  ·rintro ⟨r,hr,h3,h4⟩
   have e1:=he r.f_To (yjgy.2 ⟨r,hm r hr,.inr rfl⟩) h4
   exact ⟨r,hr,by omega,e1⟩
 obtain ⟨g1,g2⟩:=yoay (fun n=>cov l n && !cov w n) (edges (l ++ w)) (fun a n han he=>by
  rw [hsame l (fun r hr=>by simp [hr]) a n han he,hsame w (fun r hr=>by simp [hr]) a n han he]) (ydRy (l ++ w)) [] h1 (fun e he a _ _=>(h2 e).2 he) yioy (fun p h=>by cases h)
 refine ⟨g1,fun n=>?_⟩
 rw [show rowsL l w = edgeL (fun n=>cov l n && !cov w n) [] (ydRy (l ++ w)) from rfl,g2]
 cases hq:cov l n && !cov w n with
 | false=>simp [cov]
 | true =>
  have:cov l n = true:=by simp at hq; exact hq.1
  obtain ⟨r,hr,h3,h4⟩:=ybly.1 this
  have hsp:span (ydRy (l ++ w)) n = true:=by
   simp only [span,Bool.and_eq_true,List.any_eq_true,decide_eq_true_eq]
   exact ⟨⟨r.f_From,(h2 _).2 (yjgy.2 ⟨r,by simp [hr],.inl rfl⟩),h3⟩,⟨r.f_To,(h2 _).2 (yjgy.2 ⟨r,by simp [hr],.inr rfl⟩),h4⟩⟩
  rw [hsp]; simp [cov]
end Go.Am
set_option linter.unusedVariables false
set_option linter.unusedSectionVars false
set_option linter.unusedSimpArgs false
set_option maxRecDepth 100000
namespace Go.Am
open Go Go.Proofs
variable [Fuel]
def okSeg (cls:List UInt8) (mode at0:Int) (s:G_Segment):Bool:=s.f_Class == cls && ((mode == 0 || s.f_Modes.any (fun y=>mode == y)) && (decide (s.f_Time.f_From≤at0) && decide (at0 < s.f_Time.f_To)))
def permL (cls:List UInt8) (mode at0:Int):List G_Row→List G_Segment→List G_Row
 | out,[]=>out
 | out,s :: ss=>bif okSeg cls mode at0 s then permL cls mode at0 (out ++ [⟨s.f_Low,s.f_High⟩]) ss else permL cls mode at0 out ss
theorem yhGy (cls:List UInt8) (mode at0:Int):∀ (l:List G_Segment) (out:List G_Row) (r:G_Row),r ∈ permL cls mode at0 out l→r ∈ out ∨ ∃ s ∈ l,r = ⟨s.f_Low,s.f_High⟩
 | [],out,r,h=>.inl h
 | s :: ss,out,r,h=>by
  unfold permL at h
  cases hq:okSeg cls mode at0 s with
  | true =>
   rw [hq] at h
   rcases yhGy cls mode at0 ss _ r h with h | ⟨x,hx,h⟩
   ·rcases List.mem_append.1 h with h | h
    ·exact .inl h
    ·simp at h; exact .inr ⟨s,by simp,h⟩
   ·exact .inr ⟨x,by simp [hx],h⟩
  | false =>
   rw [hq] at h
   rcases yhGy cls mode at0 ss _ r h with h | ⟨x,hx,h⟩
   ·exact .inl h
   ·exact .inr ⟨x,by simp [hx],h⟩
theorem yjjy (cls:List UInt8) (mode at0:Int):∀ (l:List G_Segment) (out:List G_Row),(permL cls mode at0 out l).length≤out.length + l.length
 | [],out=>by simp [permL]
 | s :: ss,out=>by
  unfold permL
  have h1:=yjjy cls mode at0 ss (out ++ [⟨s.f_Low,s.f_High⟩])
  have h2:=yjjy cls mode at0 ss out
  simp at h1
  cases okSeg cls mode at0 s <;> simp <;> omega
theorem z86z_is {l:List Int} (hl:l.length≤1000) (v:Int) (R:Type) (k:Bool→Option R):z86z l v k = k (l.any fun y=>v == y):=by
 simp only [z86z,z86z_,yAzy,yNWy]
 rw [yFby _ v l (by have:=NN_ok; omega) (by have:=NN_ok; omega),yvjy]
theorem ytMy (w:G_Window) (at0:Int) (R:Type) (k:Bool→Option R):kit_Has w at0 k = k (decide (w.f_From≤at0) && decide (at0 < w.f_To)):=by
 simp only [kit_Has,yqKy]
 cases decide (w.f_From≤at0) <;> rfl
theorem z47z_loop (l:List G_Segment) (hm:∀ s ∈ l,s.f_Modes.length≤1000) (hl:l.length≤1000) (cls:List UInt8) (mode at0:Int):∀ (xs:List G_Segment) (n i:Nat) (out:List G_Row),l.drop i = xs→xs.length < n→out.length≤i →
  ∀ (R:Type) (e0:List G_Row→Option R),z47z_L3 yday n cls mode at0 l (l.length:Int) (i:Int) out e0 = e0 (permL cls mode at0 out xs)
 | _,0,_,_,_,h,_,_,_=>by omega
 | [],n + 1,i,out,h,_,_,R,e0=>by rw [z47z_L3,ya1y h]; rfl
 | s :: ss,n + 1,i,out,h,hn,ho,R,e0=>by
  have h':=yaly h
  have ih1:=z47z_loop l hm hl cls mode at0 ss n (i + 1) (out ++ [⟨s.f_Low,s.f_High⟩]) h'.2.2.1 (by simp at hn; omega) (by simp; omega) R e0
  have ih2:=z47z_loop l hm hl cls mode at0 ss n (i + 1) out h'.2.2.1 (by simp at hn; omega) (by omega) R e0
  rw [z47z_L3,yaZy h]
  simp only [yday] at ih1 ih2
  simp only [cond_true,ybcy h,yday,ytMy,z86z_is (hm s (yb6y h)),yasy (show i < 4611686018427387904 by omega),room1 out _ 16 (show out.length≤1000000 by omega) (by omega),ih1,ih2,permL,okSeg]
  cases s.f_Class == cls <;> cases mode == 0 <;> cases (s.f_Modes.any fun y=>mode == y) <;> cases decide (s.f_Time.f_From≤at0) <;> cases decide (at0 < s.f_Time.f_To) <;> rfl
structure GoodG (s:G_Segment):Prop where
 low:0≤s.f_Low
 lt:s.f_Low < s.f_High
 high:s.f_High≤30000000000
theorem yIvy {l:List G_Segment} (hg:∀ s ∈ l,GoodG s) (cls:List UInt8) (mode at0:Int):BigR (permL cls mode at0 [] l)∧∀ r ∈ permL cls mode at0 [] l,r.f_From < r.f_To:=by
 constructor
 ·intro r hr
  rcases yhGy cls mode at0 l [] r hr with h | ⟨s,hs,rfl⟩
  ·cases h
  ·have:=hg s hs; have:=this.low; have:=(hg s hs).lt; have:=(hg s hs).high; simp only; omega
 ·intro r hr
  rcases yhGy cls mode at0 l [] r hr with h | ⟨s,hs,rfl⟩
  ·cases h
  ·exact (hg s hs).lt
theorem z47z_is {l:List G_Segment} (hm:∀ s ∈ l,s.f_Modes.length≤1000) (hg:∀ s ∈ l,GoodG s) (hl:l.length≤500) (cls:List UInt8) (mode at0:Int) :
  (rowsL (permL cls mode at0 [] l) []).length≤l.length∧∀ (R:Type) (k:List G_Row→Option R),z47z l cls mode at0 k = k (rowsL (permL cls mode at0 [] l) []):=by
 obtain ⟨b1,b2⟩:=yIvy hg cls mode at0
 have hlen:=yjjy cls mode at0 l []
 obtain ⟨J,j1,j2,j3,j4⟩:=z25z_is b1 b2 (by simp at hlen; omega)
 obtain ⟨r1,r2⟩:=ygAy (permL cls mode at0 [] l) []
 have e:J = rowsL (permL cls mode at0 [] l) []:=ypky j1 r1 fun n=>by rw [j2,r2]; simp [cov]
 have h:∀ (R:Type) (e0:List G_Row→Option R),z47z_L3 yday yday.N cls mode at0 l (l.length:Int) 0 [] e0 = e0 (permL cls mode at0 [] l):=fun R e0 =>
  z47z_loop l hm (by omega) cls mode at0 l NN 0 [] rfl (by have:=NN_ok; omega) (by simp) R e0
 rw [← e]
 refine ⟨by simp at hlen; omega,fun R k=>?_⟩
 simp only [z47z,z47z_,h]
 simp only [yday,j4]
theorem yIXy (a b:Int):addE [] a b = [⟨a,b⟩]:=rfl
theorem yG3y (pre:List G_Row) (p:G_Row) (a b:Int):addE (pre ++ [p]) a b = bif p.f_To == a then pre ++ [⟨p.f_From,b⟩] else pre ++ [p] ++ [⟨a,b⟩]:=by
 unfold addE
 rw [show (pre ++ [p]).getLast? = some p by simp,List.dropLast_concat]
theorem yJYy (out:List G_Row) (a b:Int):(addE out a b).length≤out.length + 1:=by
 rcases yiny out with rfl | ⟨pre,p,rfl⟩
 ·simp [yIXy]
 ·rw [yG3y]
  cases p.f_To == a <;> simp
theorem ywGy (r u:G_Row) (R:Type) (k:Bool→G_Row→Option R):band_May_1 r u k = k (decide (r.f_From≤u.f_From) && decide (u.f_To≤r.f_To)) u:=by
 simp only [band_May_1,yjCy]
 cases decide (r.f_From≤u.f_From) <;> rfl
theorem yMEy {l:List G_Row} (hl:l.length≤100000) (u:G_Row) (R:Type) (k:Bool→G_Row→Option R):z54z l u k = k (l.any fun r=>decide (r.f_From≤u.f_From) && decide (u.f_To≤r.f_To)) u:=by
 simp only [z54z,z54z_,yAMy,yP6y]
 rw [ymUy _ (fun r=>decide (r.f_From≤u.f_From) && decide (u.f_To≤r.f_To)) u l (fun x hx R k=>ywGy x u R k) (by have:=NN_ok; omega) (by have:=NN_ok; omega),yvjy]
def usedR (hertz width:Int):G_Row:=⟨w64 (hertz - w64 (Int.tdiv width 2)),w64 (w64 (hertz - w64 (Int.tdiv width 2)) + width)⟩
end Go.Am
