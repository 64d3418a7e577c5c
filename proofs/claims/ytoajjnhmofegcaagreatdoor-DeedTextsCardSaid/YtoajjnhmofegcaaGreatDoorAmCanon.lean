/- Part of an abstract machine for this program, with its soundness: AmCanon. No condition: lemmas for the claim. -/
import Derived.Test.YtoajjnhmofegcaaGreatDoorAmDraw
set_option linter.unusedVariables false
set_option linter.unusedSimpArgs false
namespace Go.Am
open Go
variable {A:Nat→Type} {R:Type}
variable {T:Ty A} {w0 w w':World} {F0:List Nat} {X:Nat→Prop} {γ γ':Nat→Value} {φ φ':Nat→List Nat} {av av':Nat→Prop} {tmps:Array Value} {S S':St A} {res:R}
theorem ygjy {ps:List (Nat×Nat)} {t t':Nat} (h:renO ps t = some t'):(t,t')∈ps:=by
 unfold renO at h
 cases hf:ps.find? fun p=>p.1 == t with
 | none=>simp [hf] at h
 | some p =>
  simp [hf] at h
  have h1:=List.mem_of_find?_eq_some hf
  have h2:=List.find?_some hf
  simp at h2
  rw [← h2,← h]
  exact h1
theorem yzEy {ps:List (Nat×Nat)} {o o':Ob A} (h:renOb ps o = some o'):o'.kind = o.kind:=by
 cases o <;> simp only [renOb] at h
 case box cs =>
  cases hc:ya1y ps 64 cs with
  | none=>simp [hc] at h
  | some cs'=>simp [hc] at h;subst h;rfl
 all_goals (cases h;rfl)
def RenOk (ps:List (Nat×Nat)) (look:Nat→Option (Ob A)) (γ:Nat→Value) (look':Nat→Option (Ob A)) (γ':Nat→Value):Prop :=
 ∀ a b,(a,b)∈ps→∀ o',look' b = some o'→∃ o,look a = some o∧o'.kind = o.kind∧γ' b = γ a
theorem yspy {ps:List (Nat×Nat)} {look look':Nat→Option (Ob A)} (hr:RenOk ps look γ look' γ'):∀ n,
  (∀ x x' v,renAV ps n x = some x'→RAV T w av look γ x v→RAV T w av look' γ' x' v)∧(∀ xs xs' vs,ya1y ps n xs = some xs'→RAVs T w av look γ xs vs→RAVs T w av look' γ' xs' vs):=by
 intro n
 induction n with
 | zero=>exact ⟨fun x x' v h=>by simp [renAV] at h,fun xs xs' vs h=>by simp [ya1y] at h⟩
 | succ n ih =>
  refine ⟨fun x x' v h hx=>?_,fun xs xs' vs h hx=>?_⟩
  ·cases x <;> simp only [renAV] at h
   case undef=>cases h;trivial
   case d y=>cases h;simpa only [RAV] using hx
   case agg cs =>
    cases hc:ya1y ps n cs with
    | none=>simp [hc] at h
    | some cs' =>
     simp [hc] at h;subst h
     simp only [RAV] at hx ⊢
     obtain ⟨vs,h1,h2⟩:=hx
     exact ⟨vs,h1,ih.2 _ _ _ hc h2⟩
   case tup cs =>
    cases hc:ya1y ps n cs with
    | none=>simp [hc] at h
    | some cs' =>
     simp [hc] at h;subst h
     simp only [RAV] at hx ⊢
     obtain ⟨vs,h1,h2⟩:=hx
     exact ⟨vs,h1,ih.2 _ _ _ hc h2⟩
   case fn f cs =>
    cases hc:ya1y ps n cs with
    | none=>simp [hc] at h
    | some cs' =>
     simp [hc] at h;subst h
     simp only [RAV] at hx ⊢
     obtain ⟨vs,h1,h2⟩:=hx
     exact ⟨vs,h1,ih.2 _ _ _ hc h2⟩
   case own e t =>
    cases hc:renO ps t with
    | none=>simp [hc] at h
    | some t' =>
     simp [hc] at h;subst h
     simp only [RAV] at hx ⊢
     intro o' ho'
     obtain ⟨o,h1,h2,h3⟩:=hr _ _ (ygjy hc) o' ho'
     obtain ⟨h4,h5⟩:=hx o h1
     exact ⟨h4.trans h3.symm,h2.trans h5⟩
   case ptr t off =>
    cases hc:renO ps t with
    | none=>simp [hc] at h
    | some t' =>
     simp [hc] at h;subst h
     simp only [RAV] at hx ⊢
     intro o' ho'
     obtain ⟨o,h1,h2,h3⟩:=hr _ _ (ygjy hc) o' ho'
     obtain ⟨h4,h5⟩:=hx o h1
     exact ⟨by rw [h3];exact h4,h2.trans h5⟩
   case elp e t i off =>
    cases hc:renO ps t with
    | none=>simp [hc] at h
    | some t' =>
     simp [hc] at h;subst h
     simp only [RAV] at hx ⊢
     intro o' ho'
     obtain ⟨o,h1,h2,h3⟩:=hr _ _ (ygjy hc) o' ho'
     obtain ⟨h4,h5⟩:=hx o h1
     exact ⟨by rw [h3];exact h4,h2.trans h5⟩
   case cel c off=>cases h;simpa only [RAV] using hx
   case mp t =>
    cases hc:renO ps t with
    | none=>simp [hc] at h
    | some t' =>
     simp [hc] at h;subst h
     simp only [RAV] at hx ⊢
     intro o' ho'
     obtain ⟨o,h1,h2,h3⟩:=hr _ _ (ygjy hc) o' ho'
     obtain ⟨h4,h5⟩:=hx o h1
     exact ⟨h4.trans h3.symm,h2.trans h5⟩
   case vw e t lo hi =>
    cases hc:renO ps t with
    | none=>simp [hc] at h
    | some t' =>
     simp [hc] at h;subst h
     simp only [RAV] at hx ⊢
     intro o' ho'
     obtain ⟨o,h1,h2,h3⟩:=hr _ _ (ygjy hc) o' ho'
     obtain ⟨h4,h5⟩:=hx o h1
     exact ⟨by rw [h3];exact h4,h2.trans h5⟩
  ·cases xs with
   | nil=>simp only [ya1y] at h;cases h;exact hx
   | cons x xs =>
    simp only [ya1y] at h
    cases h1:renAV ps n x with
    | none=>simp [h1] at h
    | some x1 =>
     cases h2:ya1y ps n xs with
     | none=>simp [h1,h2] at h
     | some xs1 =>
      simp [h1,h2] at h;subst h
      simp only [RAVs] at hx ⊢
      obtain ⟨v,vs',h3,h4,h5⟩:=hx
      exact ⟨v,vs',h3,ih.1 _ _ _ h1 h4,ih.2 _ _ _ h2 h5⟩
theorem yydy {ps:List (Nat×Nat)} {t:Nat}:∀ n,
  (∀ (x:AV A) x',renAV ps n x = some x'→occAV t x' = true→t∈ps.map (·.2))∧(∀ (xs:List (AV A)) xs',ya1y ps n xs = some xs'→yady t xs' = true→t∈ps.map (·.2)):=by
 have hm:∀ {a b:Nat},renO ps a = some b→b∈ps.map (·.2):=fun h=>List.mem_map.2 ⟨_,ygjy h,rfl⟩
 intro n
 induction n with
 | zero=>exact ⟨fun x x' h=>by simp [renAV] at h,fun xs xs' h=>by simp [ya1y] at h⟩
 | succ n ih =>
  refine ⟨fun x x' h hx=>?_,fun xs xs' h hx=>?_⟩
  ·cases x <;> simp only [renAV] at h
   case undef=>cases h;simp [occAV] at hx
   case d y=>cases h;simp [occAV] at hx
   case cel c off=>cases h;simp [occAV] at hx
   case agg cs=>cases hc:ya1y ps n cs with
    | none=>simp [hc] at h
    | some cs'=>simp [hc] at h;subst h;exact ih.2 _ _ hc (by simpa [occAV] using hx)
   case tup cs=>cases hc:ya1y ps n cs with
    | none=>simp [hc] at h
    | some cs'=>simp [hc] at h;subst h;exact ih.2 _ _ hc (by simpa [occAV] using hx)
   case fn f cs=>cases hc:ya1y ps n cs with
    | none=>simp [hc] at h
    | some cs'=>simp [hc] at h;subst h;exact ih.2 _ _ hc (by simpa [occAV] using hx)
   case own e t1=>cases hc:renO ps t1 with
    | none=>simp [hc] at h
    | some t'=>simp [hc] at h;subst h;simp [occAV] at hx;subst hx;exact hm hc
   case ptr t1 off=>cases hc:renO ps t1 with
    | none=>simp [hc] at h
    | some t'=>simp [hc] at h;subst h;simp [occAV] at hx;subst hx;exact hm hc
   case elp e t1 i off=>cases hc:renO ps t1 with
    | none=>simp [hc] at h
    | some t'=>simp [hc] at h;subst h;simp [occAV] at hx;subst hx;exact hm hc
   case mp t1=>cases hc:renO ps t1 with
    | none=>simp [hc] at h
    | some t'=>simp [hc] at h;subst h;simp [occAV] at hx;subst hx;exact hm hc
   case vw e t1 lo hi=>cases hc:renO ps t1 with
    | none=>simp [hc] at h
    | some t'=>simp [hc] at h;subst h;simp [occAV] at hx;subst hx;exact hm hc
  ·cases xs with
   | nil=>simp only [ya1y] at h;cases h;simp [yady] at hx
   | cons x xs =>
    simp only [ya1y] at h
    cases h1:renAV ps n x with
    | none=>simp [h1] at h
    | some x1 =>
     cases h2:ya1y ps n xs with
     | none=>simp [h1,h2] at h
     | some xs1 =>
      simp [h1,h2] at h;subst h
      simp only [yady,Bool.or_eq_true] at hx
      exact hx.elim (ih.1 _ _ h1) (ih.2 _ _ h2)
theorem ylry {ps:List (Nat×Nat)} {look:Nat→Option (Ob A)}:∀ {l:List (Nat×Nat)} {acc st:List (Option (Ob A))},renSt ps look l acc = some st →
  (∀ b o',(st[b]?).getD none = some o'→(∃ a o,(a,b)∈l∧look a = some o∧renOb ps o = some o') ∨ (acc[b]?).getD none = some o')∧st.length = acc.length
 | [],acc,st,h=>by simp only [renSt] at h;cases h;exact ⟨fun b o' h=>.inr h,rfl⟩
 | (a,b0)::r,acc,st,h=>by
  simp only [renSt] at h
  have step:∀ x,renSt ps look r (acc.set b0 x) = some st→(∀ o',x = some o'→∃ o,look a = some o∧renOb ps o = some o') →
    (∀ b o',(st[b]?).getD none = some o'→(∃ a' o,(a',b)∈(a,b0)::r∧look a' = some o∧renOb ps o = some o') ∨ (acc[b]?).getD none = some o')∧st.length = acc.length:=by
   intro x h hx
   obtain ⟨h1,h2⟩:=ylry h
   refine ⟨fun b o' ho=>?_,by simpa using h2⟩
   rcases h1 b o' ho with ⟨a',o,h3,h4,h5⟩ | h3
   ·exact .inl ⟨a',o,by simp [h3],h4,h5⟩
   ·rw [List.getElem?_set] at h3
    by_cases hb:b0 = b
    ·subst hb
     by_cases hl:b0 < acc.length
     ·simp [hl] at h3
      obtain ⟨o,h4,h5⟩:=hx o' h3
      exact .inl ⟨a,o,by simp,h4,h5⟩
     ·simp [hl] at h3
    ·simp [hb] at h3
     exact .inr (by simpa using h3)
  cases hl:look a with
  | none =>
   simp only [hl,Option.bind_some] at h
   exact step none h (fun o' h=>by cases h)
  | some o =>
   simp only [hl] at h
   cases hr:renOb ps o with
   | none=>simp [hr] at h
   | some o1 =>
    simp only [hr,Option.map_some,Option.bind_some] at h
    exact step (some o1) h (fun o' h=>by cases h;exact ⟨o,hl,hr⟩)
theorem Rel.rename (h:Rel T w0 F0 X γ φ av w tmps S) {ps:List (Nat×Nat)} (hn1:(ps.map (·.1)).Nodup) (hn2:(ps.map (·.2)).Nodup) {keep:List Nat} {n:Nat} {fr:List (AV A)} (hfr:ya1y ps n (yl2y keep S.fr) = some fr)
  {st:List (Option (Ob A))} {m:Nat} (hst:renSt ps S.look ps (List.replicate m none) = some st):∃ γ' φ',Rel T w0 F0 X γ' φ' av w tmps { fr,st }∧∀ t,occSt t ({ fr,st }:St A) = true→t∈ps.map (·.2):=by
 let inv:Nat→Option Nat:=fun b=>(ps.find? fun p=>p.2 == b).map (·.1)
 have hinv:∀ {a b},(a,b)∈ps→inv b = some a:=by
  intro a b hab
  cases hf:ps.find? fun p=>p.2 == b with
  | none =>
   have:=List.find?_eq_none.1 hf (a,b) hab
   simp at this
  | some p =>
   have h1:=List.mem_of_find?_eq_some hf
   have h2:=List.find?_some hf
   simp at h2
   have:p = (a,b):=by
    have key:∀ (l:List (Nat×Nat)),(l.map (·.2)).Nodup→∀ x∈l,∀ y∈l,x.2 = y.2→x = y:=by
     intro l
     induction l with
     | nil=>simp
     | cons z l ih =>
      intro hn x hx y hy he
      rw [List.map_cons,List.nodup_cons] at hn
      rcases List.mem_cons.1 hx with rfl | hx1
      ·rcases List.mem_cons.1 hy with rfl | hy1
       ·rfl
       ·exact (hn.1 (List.mem_map.2 ⟨y,hy1,he.symm⟩)).elim
      ·rcases List.mem_cons.1 hy with rfl | hy1
       ·exact (hn.1 (List.mem_map.2 ⟨x,hx1,he⟩)).elim
       ·exact ih hn.2 x hx1 y hy1 he
    exact key ps hn2 p h1 (a,b) hab h2
   simp [inv,hf,this]
 let γ':Nat→Value:=fun b=>match inv b with | some a=>γ a | none=>γ b
 let φ':Nat→List Nat:=fun b=>match inv b with | some a=>φ a | none=>[]
 have hγ:∀ {a b},(a,b)∈ps→γ' b = γ a:=fun hab=>by simp [γ',hinv hab]
 have hφ:∀ {a b},(a,b)∈ps→φ' b = φ a:=fun hab=>by simp [φ',hinv hab]
 obtain ⟨hlk,hlen⟩:=ylry hst
 have hlook:∀ b o',St.look ({ fr,st }:St A) b = some o'→∃ a o,(a,b)∈ps∧S.look a = some o∧renOb ps o = some o':=by
  intro b o' ho
  rcases hlk b o' ho with h1 | h1
  ·exact h1
  ·rw [List.getElem?_replicate] at h1
   split at h1 <;> simp at h1
 have hren:RenOk ps S.look γ (St.look ({ fr,st }:St A)) γ':=by
  intro a b hab o' ho'
  obtain ⟨a2,o,h1,h2,h3⟩:=hlook b o' ho'
  have:a2 = a:=by have e1:=hinv h1;have e2:=hinv hab;rw [e1] at e2;exact Option.some.inj e2
  subst this
  exact ⟨o,h2,yzEy h3,hγ hab⟩
 refine ⟨γ',φ',⟨?_,?_,?_,?_,?_,h.avlt,?_,h.x,h.left,h.amb⟩,?_⟩
 ·refine (yspy hren n).2 _ _ _ hfr (RAVs.of_cells ?_ (fun j x hj=>?_))
  ·rw [yl2y,List.length_map,List.length_zipIdx];exact h.fr.len
  ·simp only [yl2y,List.getElem?_map,List.getElem?_zipIdx,Nat.zero_add] at hj
   cases hx:S.fr[j]? with
   | none=>simp [hx] at hj
   | some y =>
    obtain ⟨u,hu,hr⟩:=h.fr.get hx
    refine ⟨u,hu,?_⟩
    simp only [hx,Option.map_some,Option.some.injEq] at hj
    split at hj
    ·subst hj;exact hr
    ·subst hj;trivial
 ·intro b o' ho'
  obtain ⟨a,o,h1,h2,h3⟩:=hlook b o' ho'
  have hob:=h.ob a o h2
  cases o <;> simp only [renOb] at h3
  case row e xs=>cases h3;simp only [ROb] at hob ⊢;rw [hγ h1,hφ h1];exact hob
  case frz e xs=>cases h3;simp only [ROb] at hob ⊢;rw [hγ h1,hφ h1];exact hob
  case mp k e m=>cases h3;simp only [ROb] at hob ⊢;rw [hγ h1,hφ h1];exact hob
  case gone k=>cases h3;simp only [ROb] at hob ⊢;rw [hγ h1,hφ h1];exact hob
  case bld s=>cases h3;simp only [ROb] at hob ⊢;rw [hγ h1,hφ h1];exact hob
  case box cs =>
   cases hc:ya1y ps 64 cs with
   | none=>simp [hc] at h3
   | some cs' =>
    simp [hc] at h3;subst h3
    simp only [ROb] at hob ⊢
    rw [hγ h1,hφ h1]
    obtain ⟨bb,c,ty,i1,i2,i3,i4⟩:=hob
    exact ⟨bb,c,ty,i1,i2,i3,(yspy hren 64).2 _ _ _ hc i4⟩
 ·intro b o' ho'
  obtain ⟨a,o,h1,h2,h3⟩:=hlook b o' ho'
  rw [hφ h1];exact h.nd a o h2
 ·intro b o b' o' hb hb' hne x hx hx'
  obtain ⟨a,o1,h1,h2,h3⟩:=hlook b o hb
  obtain ⟨a',o1',h1',h2',h3'⟩:=hlook b' o' hb'
  rw [hφ h1] at hx
  rw [hφ h1'] at hx'
  refine h.disj a o1 a' o1' h2 h2' (fun e=>hne ?_) x hx hx'
  subst e
  have key:∀ (l:List (Nat×Nat)),(l.map (·.1)).Nodup→∀ x∈l,∀ y∈l,x.1 = y.1→x = y:=by
   intro l
   induction l with
   | nil=>simp
   | cons z l ih =>
    intro hn x hx y hy he
    rw [List.map_cons,List.nodup_cons] at hn
    rcases List.mem_cons.1 hx with rfl | hx1
    ·rcases List.mem_cons.1 hy with rfl | hy1
     ·rfl
     ·exact (hn.1 (List.mem_map.2 ⟨y,hy1,he.symm⟩)).elim
    ·rcases List.mem_cons.1 hy with rfl | hy1
     ·exact (hn.1 (List.mem_map.2 ⟨x,hx1,he⟩)).elim
     ·exact ih hn.2 x hx1 y hy1 he
  have:=key ps hn1 _ h1 _ h1' rfl
  exact (Prod.mk.inj this).2
 ·rintro x (hx | ⟨b,o,hb,hm⟩)
  ·exact h.avs x (.inl hx)
  ·obtain ⟨a,o1,h1,h2,h3⟩:=hlook b o hb
   rw [hφ h1] at hm
   exact h.av_of h2 hm
 ·intro b o hb x hx
  obtain ⟨a,o1,h1,h2,h3⟩:=hlook b o hb
  rw [hφ h1] at hx
  exact h.fp a o1 h2 x hx
 ·intro t ht
  unfold occSt at ht
  rw [Bool.or_eq_true] at ht
  rcases ht with ht | ht
  ·exact (yydy n).2 _ _ hfr ht
  ·obtain ⟨x,hx,hxo⟩:=List.any_eq_true.1 ht
   cases x with
   | none=>simp [occOb] at hxo
   | some o' =>
    obtain ⟨b,hb⟩:=List.getElem?_of_mem hx
    obtain ⟨a,o,h1,h2,h3⟩:=hlook b o' (by simp [St.look,hb])
    cases o <;> simp only [renOb] at h3
    case box cs =>
     cases hc:ya1y ps 64 cs with
     | none=>simp [hc] at h3
     | some cs' =>
      simp [hc] at h3;subst h3
      exact (yydy 64).2 _ _ hc (by simpa [occOb] using hxo)
    all_goals (cases h3;simp [occOb] at hxo)
theorem ylxy:∀ {ns:List (Nat×Nat×Nat)} {S:St A} {γ:Nat→Value} {φ:Nat→List Nat},Rel T w0 F0 X γ φ av w tmps S→(ns.map (·.2.2)).Nodup →
  (∀ p∈ns,p.2.2 < S.st.length∧S.look p.2.2 = none∧occSt p.2.2 S = false∧tmps[p.1]? = some (.slice none 0 0))→∃ γ' φ',Rel T w0 F0 X γ' φ' av w tmps (ynty S ns)
 | [],S,γ,φ,h,_,_=>⟨γ,φ,h⟩
 | (s,e,t)::r,S,γ,φ,h,hn,hp=>by
  simp only [List.map_cons,List.nodup_cons] at hn
  obtain ⟨h1,h2,h3,h4⟩:=hp (s,e,t) (by simp)
  obtain ⟨γ',φ',a1,a2,a3,a4⟩:=h.ins' h1 (.row e []) (.slice none 0 0) [] (.inl ⟨h2,h3⟩) (by simp) ⟨by simp,by simp,by simp,by simp⟩ (fun γ' φ' b1 b2 _=>by
   simp only [ROb,RIV]
   exact ⟨none,by simp [b2],by rw [b1];simp [OwnSl],by simp⟩)
  have hput:=a1.put (x:=.own e t) (v:=.slice none 0 0) s (by
   simp only [RAV]
   intro o ho
   rw [a3] at ho;cases ho
   exact ⟨a2.symm,rfl⟩)
  have htm:tmps.setIfInBounds s (.slice none 0 0) = tmps:=by
   apply Array.toList_inj.1
   rw [Array.toList_setIfInBounds]
   exact ylmy _ _ _ (by simpa using h4)
  rw [htm] at hput
  simp only [ynty]
  refine ylxy (S:={ fr:=S.fr.set s (.own e t),st:=S.st.set t (some (.row e [])) }) hput hn.2 (fun p hp'=>?_)
  obtain ⟨i1,i2,i3,i4⟩:=hp p (by simp [hp'])
  have hne:p.2.2≠t:=fun e=>hn.1 (List.mem_map.2 ⟨p,hp',e⟩)
  refine ⟨by simpa using i1,?_,?_,i4⟩
  ·have:St.look ({ fr:=S.fr.set s (.own e t),st:=S.st.set t (some (.row e [])) }:St A) p.2.2 = St.look { S with st:=S.st.set t (some (.row e [])) } p.2.2:=rfl
   rw [this,yayy,if_neg (fun h=>hne h.1)]
   exact i2
  ·cases hq:occSt p.2.2 ({ fr:=S.fr.set s (.own e t),st:=S.st.set t (some (.row e [])) }:St A) with
   | false=>rfl
   | true =>
    unfold occSt at hq i3
    rw [Bool.or_eq_false_iff] at i3
    rw [Bool.or_eq_true] at hq
    rcases hq with hq | hq
    ·have key:∀ (l:List (AV A)) (s:Nat),yady p.2.2 (l.set s (.own e t)) = true→yady p.2.2 l = true:=by
      intro l
      induction l with
      | nil=>intro s h;simpa using h
      | cons x xs ih =>
       intro s h
       cases s with
       | zero =>
        simp only [List.set_cons_zero,yady,Bool.or_eq_true] at h ⊢
        refine .inr (h.resolve_left (fun h=>?_))
        simp [occAV] at h
        exact hne h.symm
       | succ s =>
        simp only [List.set_cons_succ,yady,Bool.or_eq_true] at h ⊢
        exact h.imp id (ih s)
     rw [key _ _ hq] at i3;exact absurd i3.1 (by simp)
    ·have:=yjry (i:=t) (o:=some (Ob.row e ([]:List (A e)))) (t:=p.2.2) rfl hq
     rw [this] at i3;exact absurd i3.2 (by simp)
theorem yjMy:∀ {hs:List (Nat×Nat×Nat)} {fr:List (AV A)} {ps:List (Nat×Nat)} {ns:List (Nat×Nat×Nat)},yc9y fr hs = some (ps,ns)→∀ p∈ns,(fr[p.1]?).getD .undef = .d .nsl
 | [],fr,ps,ns,h=>by simp only [yc9y] at h;cases h;simp
 | (s,e,t)::r,fr,ps,ns,h=>by
  simp only [yc9y] at h
  cases hc:yc9y fr r with
  | none=>simp [hc] at h
  | some q =>
   obtain ⟨ps',ns'⟩:=q
   simp only [hc,Option.bind_some] at h
   have ih:=yjMy hc
   split at h
   ·split at h
    ·cases h;exact ih
    ·cases h
   ·rename_i hv
    cases h
    intro p hp
    rcases List.mem_cons.1 hp with rfl | hp
    ·exact hv
    ·exact ih p hp
   ·cases h
theorem yoKy {α:Type} {l:List α} {o:Nat} {x:α} (h:l[o]? = some x):Am.splice l o [x] = l:=by
 apply List.ext_getElem?
 intro i
 have hlt:o < l.length:=by
  rcases Nat.lt_or_ge o l.length with hh | hh
  ·exact hh
  ·rw [List.getElem?_eq_none hh] at h;cases h
 rw [ydXy _ _ _ (by omega)]
 split
 ·rfl
 ·split
  ·rename_i h1 h2
   simp at h2
   have:i = o:=by omega
   subst this
   simp [h]
  ·rfl
theorem yhhy:∀ {bs:List (Nat×Nat×Nat×Nat)} {S S':St A} {γ:Nat→Value} {φ:Nat→List Nat},Rel T w0 F0 X γ φ av w tmps S→ygly S bs = some S'→∃ γ' φ',Rel T w0 F0 X γ' φ' av w tmps S'
 | [],S,S',γ,φ,h,hb=>by simp only [ygly] at hb;cases hb;exact ⟨γ,φ,h⟩
 | (b,c,e,t)::r,S,S',γ,φ,h,hb=>by
  simp only [ygly] at hb
  split at hb
  ·rename_i cs hl
   split at hb
   ·rename_i hcl
    split at hb
    ·rename_i hcond
     simp only [Bool.and_eq_true,Option.isNone_iff_eq_none,Bool.not_eq_true',decide_eq_true_eq] at hcond
     obtain ⟨h1,h2,h3⟩:=hcond
     have hbt:b≠t:=by rintro rfl;rw [h1] at hl;cases hl
     obtain ⟨γ1,φ1,a1,a2,a3,a4⟩:=h.ins' h3 (.row e []) (.slice none 0 0) [] (.inl ⟨h1,h2⟩) (by simp) ⟨by simp,by simp,by simp,by simp⟩ (fun γ' φ' b1 b2 _=>by
      simp only [ROb,RIV]
      exact ⟨none,by simp [b2],by rw [b1];simp [OwnSl],by simp⟩)
     have hl1:St.look { S with st:=S.st.set t (some (.row e [])) } b = some (.box cs):=by
      rw [yayy,if_neg (fun h=>hbt h.1)];exact hl
     have hob:=a1.ob b _ hl1
     simp only [ROb] at hob
     obtain ⟨bb,cc,ty,i1,i2,i3,i4⟩:=hob
     obtain ⟨u,hu,hr⟩:=i4.get hcl
     simp only [RAV,DR.nsl] at hr
     subst hr
     obtain ⟨γ2,φ2,hR,hg2,hf2,hn2,_⟩:=a1.turn (w':=w) hl1 (ybgy hl1) (fun e=>absurd rfl e) (.box (Am.splice cs c [.own e t])) (γ1 b) (fun _=>⟨rfl,rfl⟩)
      (fun _ _=>rfl) rfl rfl ⟨rfl,fun _=>Nat.le_refl _⟩ rfl (fun γ' φ' hp hg hf hn hcomp=>by
       simp only [ROb]
       refine ⟨bb,cc,ty,by rw [hg];exact i1,by rw [hf];exact i2,i3,?_⟩
       have hm:=RAVs.mono hp _ _ (fun u hu=>hcomp u (yiEy hl1 hu)) i4
       have hs:=hm.splice (ys:=[.own e t]) (us:=[.slice none 0 0]) c (by
        simp only [RAVs]
        refine ⟨_,_,rfl,?_,rfl⟩
        simp only [RAV]
        intro o ho
        rw [ye0y] at ho
        have hx:St.look { S with st:=(S.st.set t (some (.row e []))).set b (some (.box (Am.splice cs c [.own e t]))) } t = St.look { S with st:=S.st.set t (some (.row e [])) } t:=by
         have:=yayy { S with st:=S.st.set t (some (.row e [])) } b (some (.box (Am.splice cs c [.own e t]))) t
         rw [if_neg (fun h=>hbt h.1.symm)] at this
         exact this
        have ho2:St.look { S with st:=(S.st.set t (some (.row e []))).set b (some (.box (Am.splice cs c [.own e t]))) } t = some o:=ho
        rw [hx,a3] at ho2
        cases ho2
        exact ⟨by rw [hn t (Ne.symm hbt)];exact a2.symm,rfl⟩)
       rw [yoKy (l:=cc.toList) hu] at hs
       exact hs)
     rw [ye0y] at hR
     exact yhhy hR hb
    ·cases hb
   ·exact yhhy h hb
   ·cases hb
  ·cases hb
theorem yuCy (h:Rel T w0 F0 X γ φ av w tmps S) {hh:Hint} {bp:List (Nat×Nat)} (hc:yvRy hh S bp = some S'):∃ γ' φ',Rel T w0 F0 X γ' φ' av w tmps S':=by
 unfold yvRy at hc
 cases hp:yc9y S.fr hh.canon with
 | none=>simp [hp] at hc
 | some q =>
  obtain ⟨cp,ns⟩:=q
  simp only [hp,Option.bind_some] at hc
  generalize hps:cp++(bp++hh.stay.map (fun t=>(t,t))) = ps at hc
  split at hc
  ·rename_i hn
   simp only [Bool.and_eq_true,List.all_eq_true,decide_eq_true_eq] at hn
   obtain ⟨⟨hn1,hn2⟩,hlt⟩:=hn
   have hn1:=ybYy hn1
   have hn2:=ybYy hn2
   obtain ⟨m1,m2,m3⟩:=nodup_append hn2
   cases hf:ya1y ps (S.fr.length + 64) (yl2y hh.keep S.fr) with
   | none=>simp [hf] at hc
   | some fr =>
    cases hs:renSt ps S.look ps (List.replicate S.st.length none) with
    | none=>simp [hf,hs] at hc
    | some st =>
     simp only [hf,hs,Option.bind_some,Option.some.injEq] at hc
     subst hc
     obtain ⟨γ',φ',a1,a2⟩:=h.rename hn1 m1 hf hs
     obtain ⟨b1,b2⟩:=ylry hs
     refine ylxy a1 m2 (fun p hpn=>?_)
     have hpt:p.2.2∈ns.map (·.2.2):=List.mem_map.2 ⟨p,hpn,rfl⟩
     refine ⟨by simp only;rw [b2];simpa using hlt p hpn,?_,?_,?_⟩
     ·cases hl:St.look ({ fr,st }:St A) p.2.2 with
      | none=>rfl
      | some o' =>
       rcases b1 _ _ hl with ⟨a,o,c1,_⟩ | c1
       ·exact absurd hpt (m3 _ (List.mem_map.2 ⟨_,c1,rfl⟩))
       ·rw [List.getElem?_replicate] at c1
        split at c1 <;> simp at c1
     ·cases hq:occSt p.2.2 ({ fr,st }:St A) with
      | false=>rfl
      | true=>exact absurd hpt (m3 _ (a2 _ hq))
     ·have hv:=yjMy hp p hpn
      cases hx:S.fr[p.1]? with
      | none=>simp [hx] at hv
      | some x =>
       simp [hx] at hv
       subst hv
       obtain ⟨u,hu,hr⟩:=h.fr.get hx
       simp only [RAV,DR.nsl] at hr
       simpa [hr] using hu
  ·cases hc
theorem yhfy:∀ {bs:List (Nat×Nat)} {S S':St A} {γ:Nat→Value} {φ:Nat→List Nat} {av:Nat→Prop},Rel T w0 F0 X γ φ av w tmps S→ygry S bs = some S'→∃ γ' φ' av',Rel T w0 F0 X γ' φ' av' w tmps S'
 | [],S,S',γ,φ,av,h,hb=>by simp only [ygry] at hb;cases hb;exact ⟨γ,φ,av,h⟩
 | (b,c)::r,S,S',γ,φ,av,h,hb=>by
  simp only [ygry] at hb
  split at hb
  ·rename_i cs hl
   split at hb
   ·rename_i v hcl
    split at hb
    ·rename_i d u ts hd
     split at hb
     ·rename_i hall
      simp only [List.all_eq_true,bne_iff_ne,ne_eq] at hall
      have hob0:=h.ob b _ hl
      simp only [ROb] at hob0
      obtain ⟨_,_,_,j1,_,j3,j4⟩:=hob0
      obtain ⟨u0,hu0,hr0⟩:=j4.get hcl
      obtain ⟨φ1,av1,a1,hD,_,_,_,_,_⟩:=ymCy h hr0 hd
      have hl1:(S.upd u).look b = some (.box cs):=by
       rw [ygzy (fun y hy=>hall y hy)];exact hl
      have hob:=a1.ob b _ hl1
      simp only [ROb] at hob
      obtain ⟨bb,cc,ty,i1,i2,i3,i4⟩:=hob
      obtain ⟨u1,hu,hr⟩:=i4.get hcl
      have he:u1 = u0:=by
       rw [i1] at j1
       cases j1
       rw [i3] at j3
       cases j3
       rw [hu] at hu0
       cases hu0
       rfl
      subst he
      obtain ⟨γ2,φ2,hR,hg2,hf2,hn2,_⟩:=a1.turn (w':=w) hl1 (ybgy hl1) (fun e=>absurd rfl e) (.box (Am.splice cs c [.d d])) (γ b) (fun _=>⟨rfl,rfl⟩)
       (fun _ _=>rfl) rfl rfl ⟨rfl,fun _=>Nat.le_refl _⟩ rfl (fun γ' φ' hp hg hf hn hcomp=>by
        simp only [ROb]
        refine ⟨bb,cc,ty,by rw [hg];exact i1,by rw [hf];exact i2,i3,?_⟩
        have hm:=RAVs.mono hp _ _ (fun u hu=>hcomp u (yiEy hl1 hu)) i4
        have hs:=hm.splice (ys:=[.d d]) (us:=[u1]) c (by
         simp only [RAVs]
         exact ⟨_,_,rfl,by simp only [RAV];exact hD,rfl⟩)
        rw [yoKy (l:=cc.toList) hu] at hs
        exact hs)
      rw [ye0y,yf1y] at hR
      exact yhfy hR hb
     ·cases hb
    ·cases hb
   ·cases hb
  ·exact yhfy h hb
  ·cases hb
theorem ymJy:∀ {ss:List Nat} {S S':St A} {γ:Nat→Value} {φ:Nat→List Nat} {av:Nat→Prop},Rel T w0 F0 X γ φ av w tmps S→yjDy S ss = some S'→∃ φ' av',Rel T w0 F0 X γ φ' av' w tmps S'
 | [],S,S',γ,φ,av,h,hb=>by simp only [yjDy] at hb;cases hb;exact ⟨φ,av,h⟩
 | s::r,S,S',γ,φ,av,h,hb=>by
  simp only [yjDy] at hb
  split at hb
  ·rename_i v hv
   split at hb
   ·rename_i d u ts hd
    obtain ⟨u0,hu0,hr0⟩:=h.fr.get hv
    obtain ⟨φ1,av1,a1,hD,_,_,_,_,_⟩:=ymCy h hr0 hd
    have hput:=a1.put (x:=.d d) (v:=u0) s (by simp only [RAV];exact hD)
    have htm:tmps.setIfInBounds s u0 = tmps:=by
     apply Array.toList_inj.1
     rw [Array.toList_setIfInBounds]
     exact ylmy _ _ _ hu0
    rw [htm] at hput
    have he:(S.upd u).fr = S.fr:=yf1y S u
    rw [he] at hput
    exact ymJy hput hb
   ·cases hb
  ·cases hb
theorem ysgy:∀ {cs:List (AV A)} {ds:List (D A)},yfqy cs = some ds→cs = ds.map .d
 | [],ds,h=>by simp only [yfqy] at h;cases h;rfl
 | c::cs,ds,h=>by
  cases c <;> simp only [yfqy] at h <;> (try cases h;done)
  rename_i x
  cases hr:yfqy cs with
  | none=>rw [hr] at h;cases h
  | some ys =>
   rw [hr] at h
   simp only [Option.map_some,Option.some.injEq] at h
   subst h
   rw [ysgy hr];rfl
section cels
variable {t b:Nat} {ds:List (D A)} {c:Array Value} {ty:TypeId} {fz:Nat×Nat} {look look':Nat→Option (Ob A)} {av':Nat→Prop}
mutual
theorem RAV.cel (hp:Pres w av w av') (hlook:(look t).isSome = true) (hγ:γ t = .pointer (some ⟨b,0,none⟩)) (hb:¬ av' b) (hc:w.heap[b]? = some (.cells c ty fz)) (hds:∀ (j:Nat) d,ds[j]? = some d→∃ u,c[j]? = some u∧DR T w av' d u) (hcomp:∀ u,yauy look γ look' γ u) :
  ∀ (x:AV A) v,RAV T w av look γ x v→RAV T w av' look' γ (celAV t ds x) v
 | .undef,v,_=>by simp only [celAV,RAV]
 | .d x,v,hx=>by simp only [celAV];exact RAV.mono hp _ _ (fun u _=>hcomp u) hx
 | .own e u,v,hx=>by simp only [celAV];exact RAV.mono hp _ _ (fun u _=>hcomp u) hx
 | .elp e u i o,v,hx=>by simp only [celAV];exact RAV.mono hp _ _ (fun u _=>hcomp u) hx
 | .cel cs o,v,hx=>by simp only [celAV];exact RAV.mono hp _ _ (fun u _=>hcomp u) hx
 | .mp u,v,hx=>by simp only [celAV];exact RAV.mono hp _ _ (fun u _=>hcomp u) hx
 | .vw e u lo hi,v,hx=>by simp only [celAV];exact RAV.mono hp _ _ (fun u _=>hcomp u) hx
 | .agg cs,v,hx=>by
  simp only [celAV,RAV] at hx ⊢;obtain ⟨vs,rfl,hs⟩:=hx;exact ⟨vs,rfl,RAVs.cel hp hlook hγ hb hc hds hcomp cs _ hs⟩
 | .tup cs,v,hx=>by
  simp only [celAV,RAV] at hx ⊢;obtain ⟨vs,rfl,hs⟩:=hx;exact ⟨vs,rfl,RAVs.cel hp hlook hγ hb hc hds hcomp cs _ hs⟩
 | .fn f cs,v,hx=>by
  simp only [celAV,RAV] at hx ⊢;obtain ⟨vs,rfl,hs⟩:=hx;exact ⟨vs,rfl,RAVs.cel hp hlook hγ hb hc hds hcomp cs _ hs⟩
 | .ptr u off,v,hx=>by
  simp only [celAV]
  by_cases hu:u = t
  ·subst hu
   rw [if_pos rfl]
   cases hl:look u with
   | none=>rw [hl] at hlook;cases hlook
   | some o =>
    simp only [RAV] at hx ⊢
    obtain ⟨⟨b',h1,h2⟩,_⟩:=hx o hl
    rw [hγ] at h1
    cases h1
    exact ⟨b,0,c,ty,fz,by rw [h2,Nat.zero_add],hb,hc,fun j d hj=>by rw [Nat.zero_add];exact hds j d hj⟩
  ·rw [if_neg hu]
   exact RAV.mono hp _ _ (fun u _=>hcomp u) hx
theorem RAVs.cel (hp:Pres w av w av') (hlook:(look t).isSome = true) (hγ:γ t = .pointer (some ⟨b,0,none⟩)) (hb:¬ av' b) (hc:w.heap[b]? = some (.cells c ty fz)) (hds:∀ (j:Nat) d,ds[j]? = some d→∃ u,c[j]? = some u∧DR T w av' d u) (hcomp:∀ u,yauy look γ look' γ u) :
  ∀ (xs:List (AV A)) vs,RAVs T w av look γ xs vs→RAVs T w av' look' γ (ycMy t ds xs) vs
 | [],vs,hx=>by simpa [ycMy,RAVs] using hx
 | x::xs,vs,hx=>by
  simp only [ycMy,RAVs] at hx ⊢
  obtain ⟨v,vs',rfl,h1,h2⟩:=hx
  exact ⟨v,vs',rfl,RAV.cel hp hlook hγ hb hc hds hcomp x v h1,RAVs.cel hp hlook hγ hb hc hds hcomp xs vs' h2⟩
end
end cels
theorem RAVs.atC' {look:Nat→Option (Ob A)}:∀ {xs:List (AV A)} {vs:List Value},RAVs T w av look γ xs vs→∀ {j:Nat} {x:AV A},xs[j]? = some x→∃ u,vs[j]? = some u∧RAV T w av look γ x u
 | [],vs,h,j,x,hx=>by simp at hx
 | y::ys,vs,h,j,x,hx=>by
  simp only [RAVs] at h
  obtain ⟨v,vs',rfl,h1,h2⟩:=h
  cases j with
  | zero=>simp at hx;subst hx;exact ⟨v,by simp,h1⟩
  | succ j=>simp only [List.getElem?_cons_succ] at hx ⊢;exact RAVs.atC' h2 hx
theorem yDfy {look:Nat→Option (Ob A)} {av':Nat→Prop} {t b:Nat} {cs:List (AV A)} {ds:List (D A)} {c:Array Value} {ty:TypeId} {fz:Nat×Nat} (h:selfD t cs = some ds) (hp:Pres w av w av') (hlook:∃ o,look t = some o) (hγ:γ t = .pointer (some ⟨b,0,none⟩)) (hb:¬ av' b) (hc:w.heap[b]? = some (.cells c ty fz)) (hcs:RAVs T w av look γ cs c.toList) :
  ∀ (j:Nat) d,ds[j]? = some d→∃ u,c[j]? = some u∧DR T w av' d u:=by
 intro j d hj
 unfold selfD at h
 split at h
 ·rename_i f e xs t'
  split at h
  ·rename_i ht
   subst ht
   cases h
   cases j with
   | succ j=>simp at hj
   | zero =>
    simp at hj
    subst hj
    obtain ⟨v,hv,hx⟩:=RAVs.atC' hcs (j:=0) rfl
    simp only [RAV] at hx
    obtain ⟨vs,rfl,hs⟩:=hx
    simp only [RAVs] at hs
    obtain ⟨p1,r1,e1,q1,p2,r2,e2,q2,e3⟩:=hs
    subst e3
    subst e2
    simp only [RAV] at q1 q2
    obtain ⟨b1,o1,c1,ty1,fz1,rfl,n1,m1,l1⟩:=q1
    obtain ⟨o,ho⟩:=hlook
    obtain ⟨⟨b',h1,h2⟩,_⟩:=q2 o ho
    rw [hγ] at h1
    cases h1
    obtain ⟨u,hu,n,hd⟩:=l1 0 (.sl e xs) rfl
    obtain ⟨m1',n1'⟩:=hp b1 _ n1 m1
    have hvs:vs = #[.pointer (some ⟨b1,o1 + 0,none⟩),.pointer (some ⟨b,0,none⟩)]:=by
     apply Array.toList_inj.1
     rw [e1,h2]
    refine ⟨_,by simpa using hv,n + 1,?_⟩
    simp only [DRep]
    exact ⟨b1,o1 + 0,c1,ty1,fz1,u,b,c,ty,fz,by rw [hvs],n1',m1',hu,hd.mono hp,hb,hc,by simpa using hv⟩
  ·cases h
 ·rw [ysgy h] at hcs
  obtain ⟨u,hu,hr⟩:=RAVs.atC' hcs (j:=j) (x:=.d d) (by simp [hj])
  simp only [RAV] at hr
  exact ⟨u,by simpa using hu,hr.mono hp⟩
theorem Rel.celBox (h:Rel T w0 F0 X γ φ av w tmps S) {t:Nat} {cs:List (AV A)} {ds:List (D A)} (ho:S.look t = some (.box cs)) (hsd:selfD t cs = some ds) :
  ∃ av',Rel T w0 F0 X γ φ av' w tmps { fr:=ycMy t ds S.fr,st:=(S.st.map (celOb t ds)).set t none }:=by
 have hob:=h.ob t _ ho
 simp only [ROb] at hob
 obtain ⟨b,c,ty,hγ,hφ,hc,hcs⟩:=hob
 let av':Nat→Prop:=fun x=>av x∧x≠b
 have hsub:∀ x,av' x→av x:=fun x hx=>hx.1
 have hpres:Pres w av w av':=fun x o hb ho=>⟨ho,fun hx=>hb (hsub x hx)⟩
 have hnb:¬ av' b:=fun hx=>hx.2 rfl
 have hl:∀ u,St.look { fr:=ycMy t ds S.fr,st:=(S.st.map (celOb t ds)).set t none } u = if u = t then none else celOb t ds (S.look u):=by
  intro u
  unfold St.look
  by_cases hu:u = t
  ·subst hu
   rw [if_pos rfl]
   simp only [List.getElem?_set]
   simp
   split <;> rfl
  ·rw [if_neg hu]
   simp only [List.getElem?_set_ne (Ne.symm hu),List.getElem?_map]
   cases S.st[u]? <;> rfl
 have hcomp:∀ u,yauy S.look γ (St.look { fr:=ycMy t ds S.fr,st:=(S.st.map (celOb t ds)).set t none }) γ u:=by
  intro u o' ho'
  rw [hl] at ho'
  by_cases hu:u = t
  ·rw [if_pos hu] at ho';cases ho'
  ·rw [if_neg hu] at ho'
   cases hs:S.look u with
   | none=>rw [hs] at ho';cases ho'
   | some o =>
    rw [hs] at ho'
    refine ⟨o,rfl,rfl,?_⟩
    cases o <;> simp only [celOb,Option.some.injEq] at ho' <;> subst ho' <;> rfl
 have hds:∀ (j:Nat) d,ds[j]? = some d→∃ u,c[j]? = some u∧DR T w av' d u:=yDfy hsd hpres ⟨_,ho⟩ hγ hnb hc hcs
 have hsome:(S.look t).isSome = true:=by rw [ho];rfl
 have back:∀ {u:Nat} {o':Ob A},St.look { fr:=ycMy t ds S.fr,st:=(S.st.map (celOb t ds)).set t none } u = some o'→u≠t∧∃ o,S.look u = some o:=by
  intro u o' ho'
  rw [hl] at ho'
  by_cases hu:u = t
  ·rw [if_pos hu] at ho';cases ho'
  ·rw [if_neg hu] at ho'
   refine ⟨hu,?_⟩
   cases hs:S.look u with
   | none=>rw [hs] at ho';cases ho'
   | some o=>exact ⟨o,rfl⟩
 refine ⟨av',⟨?_,?_,?_,?_,?_,fun x hx=>h.avlt x hx.1,?_,h.x,h.left,h.amb⟩⟩
 ·exact RAVs.cel hpres hsome hγ hnb hc hds hcomp _ _ h.fr
 ·intro u o' ho'
  obtain ⟨hu,o,hs⟩:=back ho'
  rw [hl,if_neg hu,hs] at ho'
  have hr:=h.ob u o hs
  cases o with
  | box cs =>
   simp only [celOb,Option.some.injEq] at ho'
   subst ho'
   simp only [ROb] at hr ⊢
   obtain ⟨b',c',ty',h1,h2,h3,h4⟩:=hr
   exact ⟨b',c',ty',h1,h2,h3,RAVs.cel hpres hsome hγ hnb hc hds hcomp _ _ h4⟩
  | row e xs =>
   simp only [celOb,Option.some.injEq] at ho'
   subst ho'
   exact ROb.same (S:=S) (S':=S) hpres rfl rfl (fun _ _=>rfl) (fun u cs hcs _=>by cases hcs) hr
  | frz e xs =>
   simp only [celOb,Option.some.injEq] at ho'
   subst ho'
   exact ROb.same (S:=S) (S':=S) hpres rfl rfl (fun _ _=>rfl) (fun u cs hcs _=>by cases hcs) hr
  | mp k e m =>
   simp only [celOb,Option.some.injEq] at ho'
   subst ho'
   exact ROb.same (S:=S) (S':=S) hpres rfl rfl (fun _ _=>rfl) (fun u cs hcs _=>by cases hcs) hr
  | bld s =>
   simp only [celOb,Option.some.injEq] at ho'
   subst ho'
   exact ROb.same (S:=S) (S':=S) hpres rfl rfl (fun _ _=>rfl) (fun u cs hcs _=>by cases hcs) hr
  | gone k =>
   simp only [celOb,Option.some.injEq] at ho'
   subst ho'
   exact ROb.same (S:=S) (S':=S) hpres rfl rfl (fun _ _=>rfl) (fun u cs hcs _=>by cases hcs) hr
 ·intro u o' ho'
  obtain ⟨_,o,hs⟩:=back ho'
  exact h.nd u o hs
 ·intro u o' u' o'' ho' ho'' hne x hx hx'
  obtain ⟨_,o,hs⟩:=back ho'
  obtain ⟨_,o2,hs2⟩:=back ho''
  exact h.disj u o u' o2 hs hs2 hne x hx hx'
 ·rintro x (hx | ⟨u,o',ho',hm⟩)
  ·refine ⟨h.avs x (.inl hx),?_⟩
   rintro rfl
   have h1:=h.fp t _ ho x (by rw [hφ];simp)
   have h2:=h.x x hx
   rcases h1.1 with h3 | h3
   ·exact h2.2 h3
   ·omega
  ·obtain ⟨hu,o,hs⟩:=back ho'
   refine ⟨h.avs x (.inr ⟨u,o,hs,hm⟩),?_⟩
   rintro rfl
   exact h.disj u o t _ hs ho hu x hm (by rw [hφ];simp)
 ·intro u o' ho' x hx
  obtain ⟨_,o,hs⟩:=back ho'
  exact h.fp u o hs x hx
theorem yigy:∀ {ts:List Nat} {S S':St A} {av:Nat→Prop},Rel T w0 F0 X γ φ av w tmps S→Am.celBox S ts = some S'→∃ av',Rel T w0 F0 X γ φ av' w tmps S'
 | [],S,S',av,h,hb=>by simp only [Am.celBox] at hb;cases hb;exact ⟨av,h⟩
 | t::r,S,S',av,h,hb=>by
  simp only [Am.celBox] at hb
  split at hb
  ·rename_i cs hl
   split at hb
   ·rename_i ds hd
    obtain ⟨av1,h1⟩:=h.celBox hl hd
    exact yigy h1 hb
   ·cases hb
  ·exact yigy h hb
  ·cases hb
theorem yxfy (h:Rel T w0 F0 X γ φ av w tmps S) {hh:Hint} (hc:canon hh S = some S'):∃ γ' φ' av',Rel T w0 F0 X γ' φ' av' w tmps S':=by
 unfold canon at hc
 cases hm:yjDy S hh.data with
 | none=>simp [hm] at hc
 | some Sm =>
 cases h0:ygry Sm hh.shut with
 | none=>simp [hm,h0] at hc
 | some S0 =>
  cases hq:Am.celBox S0 hh.cels with
  | none=>simp [hm,h0,hq] at hc
  | some Sq =>
  cases h1:ygly Sq hh.boxes with
  | none=>simp [hm,h0,hq,h1] at hc
  | some S1 =>
   cases h2:ykty S1 hh.boxes with
   | none=>simp [hm,h0,hq,h1,h2] at hc
   | some bp =>
    simp only [hm,h0,hq,h1,h2,Option.bind_some] at hc
    obtain ⟨φm,avm,hRm⟩:=ymJy h hm
    obtain ⟨γ0,φ0,av0,hR0⟩:=yhfy hRm h0
    obtain ⟨avq,hRq⟩:=yigy hR0 hq
    obtain ⟨γ1,φ1,hR⟩:=yhhy hRq h1
    obtain ⟨γ2,φ2,hR2⟩:=yuCy hR hc
    exact ⟨γ2,φ2,avq,hR2⟩
end Go.Am
