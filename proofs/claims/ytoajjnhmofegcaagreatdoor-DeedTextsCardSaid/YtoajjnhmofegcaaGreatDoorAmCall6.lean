/- Part of an abstract machine for this program, with its soundness: AmCall6. No condition: lemmas for the claim. -/
import Derived.Test.YtoajjnhmofegcaaGreatDoorAmCall4
set_option linter.unusedVariables false
set_option linter.unusedSimpArgs false
namespace Go.Am
open Go
variable {A:Nat→Type}
variable {T:Ty A} {w0 w w':World} {F0:List Nat} {X:Nat→Prop} {γ γ':Nat→Value} {φ φ':Nat→List Nat} {av av':Nat→Prop} {tmps:Array Value} {S S':St A} {R:Type} {P:Program}
variable {k:AV A→Upd A→List Nat→Option R} {res:R}
def After (T:Ty A) (w0:World) (F0:List Nat) (X:Nat→Prop) (tmps:Array Value) (S:St A) (k:AV A→Upd A→List Nat→Option R) (res:R) (u:Value) (w':World):Prop :=
 ∃ v upd ts γ' φ' av',k v upd ts = some res∧Rel T w0 F0 X γ' φ' av' w' tmps (S.upd upd)∧RAV T w' av' (S.upd upd).look γ' v u
theorem ybYy:∀ {l:List Nat},ycky l = true→l.Nodup
 | [],_=>List.nodup_nil
 | x::xs,h=>by
  simp only [ycky,Bool.and_eq_true,Bool.not_eq_true',List.contains_eq_mem,decide_eq_false_iff_not] at h
  exact List.nodup_cons.2 ⟨h.1,ybYy h.2⟩
theorem yAXy {look:Nat→Option (Ob A)} {ts:List Nat}:∀ y∈goneU look ts,∀ t,occOb t y.2 = false:=by
 intro y hy t
 simp only [goneU,List.mem_map] at hy
 obtain ⟨s,_,rfl⟩:=hy
 cases look s <;> rfl
theorem yBIy {look:Nat→Option (Ob A)} {ts:List Nat} (h:∀ t∈ts,∃ e,∃ xs:List (A e),look t = some (.row e xs) ∨ look t = some (.frz e xs)):∀ y∈lentU look ts,∀ t,occOb t y.2 = false:=by
 intro y hy t
 simp only [lentU,List.mem_map] at hy
 obtain ⟨s,hs,rfl⟩:=hy
 obtain ⟨e,xs,h | h⟩:=h s hs <;> simp [h,occOb]
theorem ylfy (h:Rel T w0 F0 X γ φ av w tmps S):∀ {ts:List Nat},ts.Nodup→(∀ t∈ts,(S.look t).isSome = true)→(ts.flatMap φ).Nodup
 | [],_,_=>by simp
 | t::r,hn,hs=>by
  have hn':=List.nodup_cons.1 hn
  rw [List.flatMap_cons,List.nodup_append]
  obtain ⟨o,ho⟩:=Option.isSome_iff_exists.1 (hs t (by simp))
  refine ⟨h.nd t o ho,ylfy h hn'.2 (fun s hs'=>hs s (by simp [hs'])),fun a ha b hb he=>?_⟩
  subst he
  obtain ⟨s,hs',hm⟩:=List.mem_flatMap.1 hb
  obtain ⟨o',ho'⟩:=Option.isSome_iff_exists.1 (hs s (by simp [hs']))
  exact h.disj t o s o' ho ho' (fun e=>hn'.1 (e ▸ hs')) a ha hm
theorem yuSy (E:Env A) {us:List Value} {f:Nat} (hat:∀ spec,E.C f = some spec→(∀ args (R:Type) (k:IV A→List (IV A)→Option R) (res:R),spec args k = some res→∀ F (av:Nat→Prop),RIVs E.T w av args us F→F.Nodup→(∀ b∈F,av b)→(∀ b,av b→b < w.heap.size)→AmbF E.T w F →
   Calls E.P f us.toArray w fun e w'=>∃ r args' v F1 F2 av',k r args' = some res∧e = .returned v∧RIV E.T w' av' r v F1∧RIVs E.T w' av' args' us F2∧(F1++F2).Nodup ∧
    (∀ b,(av b∧b ∉ F) ∨ b∈F1++F2→av' b)∧(∀ b∈F1++F2,(b∈F ∨ w.heap.size≤b)∧b < w'.heap.size)∧Left E.T w w' (·∈F))∧ybEy E.P f) (hfl:yemy E.T E.flat) (h:Rel E.T w0 F0 X γ φ av w tmps S) {tags:List Nat} {caps args:List (AV A)}
  (hx:RAVs E.T w av S.look γ (args++caps) us) (hocc:∀ t,yady t (args++caps) = true→occSt t S = true) (hf:∀ v u ts,k v u ts = some res→yazy S u = true)
  (hk:callK E S.look k tags f caps args = some res) :
  ybEy E.P f∧Calls E.P f us.toArray w (fun e w'=>∃ v,e = .returned v∧After E.T w0 F0 X tmps S k res v w'):=by
 unfold Am.callK at hk
 cases hs:E.C f with
 | none=>simp [hs] at hk
 | some spec =>
  cases hh:ybzy S.look (E.mode f) 0 (args++caps) with
  | none=>simp [hs,hh] at hk
  | some p =>
   obtain ⟨xs,ts,lent⟩:=p
   simp only [hs,hh] at hk
   split at hk
   ·rename_i hcond
    simp only [Bool.and_eq_true,List.all_eq_true,Bool.not_eq_true',List.contains_eq_mem,decide_eq_false_iff_not,Option.isNone_iff_eq_none] at hcond
    obtain ⟨hts,hdis,htags,htagn'⟩:=hcond
    have htagn:∀ t∈tags,S.look t = none:=fun t ht=>(htagn' t ht).1
    have hts:=ybYy hts
    have htags:=ybYy htags
    obtain ⟨hsound,henter⟩:=hat spec hs
    refine ⟨henter,?_⟩
    let avL:Nat→Prop:=fun b=>av b∧∀ t∈lent,b ∉ φ t
    have hsub:∀ b,avL b→av b:=fun b hb=>hb.1
    obtain ⟨ha1,ha2,ha3⟩:=yjVy h hsub hx hh (fun t ht b hb hbl=>hbl.2 t ht hb)
    have hlive:∀ t∈lent,∃ o,S.look t = some o:=fun t ht=>by obtain ⟨e,ys,h1 | h1⟩:=ha3 t ht <;> exact ⟨_,h1⟩
    have hFn:=ylfy h hts ha2
    have hFav:∀ b∈ts.flatMap φ,avL b:=by
     intro b hb
     obtain ⟨t,ht,hbt⟩:=List.mem_flatMap.1 hb
     obtain ⟨o,ho⟩:=Option.isSome_iff_exists.1 (ha2 t ht)
     refine ⟨h.av_of ho hbt,fun s hs' hbs=>?_⟩
     obtain ⟨o',ho'⟩:=hlive s hs'
     exact h.disj t o s o' ho ho' (fun e=>hdis t ht (e ▸ hs')) b hbt hbs
    refine Calls.mono (hsound _ _ _ _ hk _ avL ha1 hFn hFav (fun b hb=>h.avlt b hb.1) (h.ambNow fun b hb=>?hfp)) ?_
    case hfp =>
     obtain ⟨t,ht,hbt⟩:=List.mem_flatMap.1 hb
     obtain ⟨o,ho⟩:=Option.isSome_iff_exists.1 (ha2 t ht)
     exact (h.fp t o ho b hbt).1
    rintro e w' ⟨r,ys,v,F1,F2,av',hk,rfl,hr,hys,hnd,hav',hG,hleft⟩
    refine ⟨v,rfl,?_⟩
    obtain ⟨F2',hys',hsubl⟩:=RIVs.back (xs:=xs) hys
    have hnd':(F1++F2').Nodup:=(List.Sublist.append_left hsubl F1).nodup hnd
    have hm':∀ b∈F1++F2',b∈F1++F2:=fun b hb=>(List.Sublist.append_left hsubl F1).subset hb
    have pre:∃ shut φ1,shut = (if IV.plain E.flat 64 r&&IV.plains E.flat 64 (ycPy xs ys) then [] else lentU S.look lent)∧(∀ y∈shut,∀ t,occOb t y.2 = false)∧(∀ t,t ∉ lent→(S.upd shut).look t = S.look t) ∧
      (∀ t,yauy S.look γ ((S.upd shut).upd (goneU S.look ts)).look γ t) ∧
      ∃ av1,Rel E.T w0 F0 X γ φ1 av1 w' tmps ((S.upd shut).upd (goneU S.look ts))∧Own w0 F0 X φ1 av1 w' ((S.upd shut).upd (goneU S.look ts)) (F1++F2')∧RIV E.T w' av1 r v F1∧RIVs E.T w' av1 (ycPy xs ys) us F2'∧Pres w av w' av1:=by
     cases hp:IV.plain E.flat 64 r&&IV.plains E.flat 64 (ycPy xs ys) with
     | true =>
      rw [Bool.and_eq_true] at hp
      obtain ⟨φ1,c1,c2,c3,c4⟩:=h.gone (look:=S.look) (fun t _=>rfl) ha2 hleft (G:=F1++F2') (fun b hb=>hG b (hm' b hb))
      exact ⟨[],φ1,rfl,by simp,fun t _=>rfl,c3,_,c1,c2,(IV.plain_mono hfl 64).1 _ _ _ hp.1 hr,(IV.plain_mono hfl 64).2 _ _ _ hp.2 hys',c4⟩
     | false =>
      obtain ⟨φ0,d1,d2,d3,d4⟩:=h.shuts ha3
      have hφ0:∀ t∈ts,φ0 t = φ t:=fun t ht=>(d2 t (hdis t ht)).1
      have hfm:ts.flatMap φ0 = ts.flatMap φ:=by
       rw [List.flatMap_def,List.flatMap_def]
       congr 1
       exact List.map_congr_left hφ0
      obtain ⟨φ1,c1,c2,c3,c4⟩:=d1.gone (look:=S.look) (ts:=ts) (fun t ht=>(d2 t (hdis t ht)).2.symm) (fun t ht=>by rw [(d2 t (hdis t ht)).2];exact ha2 t ht) (w':=w') (by rw [hfm];exact hleft) (G:=F1++F2') (fun b hb=>by rw [hfm];exact hG b (hm' b hb))
      have hpr:Pres w' av' w' (fun b=>(avL b∧b ∉ ts.flatMap φ0) ∨ b∈F1++F2'):=by
       intro b o hb ho
       refine ⟨ho,fun hx=>hb (hav' b ?_)⟩
       rw [hfm] at hx
       exact hx.imp id (hm' b)
      refine ⟨lentU S.look lent,φ1,by simp,yBIy ha3,fun t ht=>(d2 t ht).2,fun t=>(d4 t).trans' (c3 t),_,c1,c2,RIV.mono hpr _ _ _ (fun _ _=>rfl) hr,RIVs.mono hpr _ _ _ (fun _ _=>rfl) hys',fun b o hb ho=>c4 b o (fun hx=>hb hx.1) ho⟩
    obtain ⟨shut,φ1,hshut,hshocc,hshlook,hcomp,av1,hrel,hown,hriv,hrivs,hpw⟩:=pre
    rw [← hshut] at hk
    cases hb:ybay (E.mode f) 0 256 (args++caps) (ycPy xs ys) tags with
    | none=>simp [hb] at hk
    | some p =>
     obtain ⟨u,fs⟩:=p
     cases hp:putIV 64 r fs with
     | none=>simp [hb,hp] at hk
     | some q =>
      obtain ⟨x,u',fs'⟩:=q
      simp only [hb,hp] at hk
      split at hk
      ·rename_i hcond
       simp only [Bool.and_eq_true,List.all_eq_true,Bool.or_eq_true,List.contains_eq_mem,decide_eq_true_eq] at hcond
       obtain ⟨hun,hroots,hsome⟩:=hcond
       have hun:=ybYy hun
       have hfresh:=hf _ _ _ hk
       simp only [yazy,List.all_eq_true] at hfresh
       generalize hS1:(S.upd shut).upd (goneU S.look ts) = S1 at hrel hown hcomp
       have hlen:S1.st.length = S.st.length:=by rw [← hS1,yb4y,yb4y]
       have hlook1:∀ t,t ∉ ts→t ∉ lent→S1.look t = S.look t:=by
        intro t h1 h2
        rw [← hS1,yd1y (fun y hy=>?_),hshlook t h2]
        simp only [goneU,List.mem_map] at hy
        obtain ⟨s,hs',rfl⟩:=hy
        exact fun e=>h1 (e ▸ hs')
       have htag1:∀ t∈tags,S1.look t = none:=by
        intro t ht
        rw [hlook1 t (fun hm=>?_) (fun hm=>?_),htagn t ht]
        ·have:=ha2 t hm;rw [htagn t ht] at this;cases this
        ·obtain ⟨o,ho⟩:=hlive t hm;rw [htagn t ht] at ho;cases ho
       have hocc1:∀ t,occSt t S = false→occSt t S1 = false:=by
        intro t ht
        cases hq:occSt t S1 with
        | false=>rfl
        | true =>
         rw [← hS1] at hq
         have:=ygZy (fun y hy=>hshocc y hy t) (ygZy (fun y hy=>yAXy y hy t) hq)
         rw [ht] at this;cases this
       have hfr:∀ y∈u++u',S.look y.1 = none→y.1 < S.st.length∧occSt y.1 S = false:=by
        intro y hy hn
        have:=hfresh y (by simp only [List.mem_append] at hy ⊢;exact .inr (.inr hy))
        have hs1:=hsome y hy
        simpa [hn,Option.isSome_iff_ne_none.1 hs1] using this
       have hgone:∀ t∈ts,∃ kd,S1.look t = some (.gone kd)∧t < S1.st.length:=by
        intro t ht
        obtain ⟨o,ho⟩:=Option.isSome_iff_exists.1 (ha2 t ht)
        rw [← hS1]
        refine ⟨o.kind,?_,by rw [yb4y,yb4y];exact ybgy ho⟩
        rw [ym0y t (by intro s hs';rw [yb4y];obtain ⟨o',ho'⟩:=Option.isSome_iff_exists.1 (ha2 s hs');exact ybgy ho'),if_pos ht,ho]
        rfl
       have hx1:RAVs E.T w' av1 S1.look γ (args++caps) us:=by
        exact RAVs.mono hpw _ _ (fun t _=>hcomp t) hx
       obtain ⟨hn1,hn2,hn3⟩:=nodup_append hnd'
       obtain ⟨γ2,φ2,used,roots,e1,e2,e3,e4,e5,e6⟩:=(yy8y 256).2 _ _ _ _ _ _ _ _ _ _ _ _ hb hrel hx1 hrivs hn2 (hown.sub (by simp +contextual)) htags htag1
        (fun t ht hm=>by
         have:=(htagn' t hm).2
         rw [ht] at this;cases this) hun (fun y hy=>by
          rcases hroots y hy with hm | hm
          ·obtain ⟨g1,g2⟩:=hfr y (by simp [hy]) (htagn _ hm)
           exact ⟨by rw [hlen];exact g1,.inl ⟨hm,hocc1 _ g2⟩⟩
          ·obtain ⟨kd,g1,g2⟩:=hgone _ hm
           exact ⟨g2,.inr ⟨kd,g1⟩⟩)
       rw [e1] at htags
       obtain ⟨ht1,ht2,ht3⟩:=nodup_append htags
       have hfs:∀ t∈fs,t∈tags:=fun t ht=>by rw [e1];simp [ht]
       have hnr:∀ t∈fs,t ∉ used++roots:=by
        intro t ht hm
        rcases List.mem_append.1 hm with hm | hm
        ·exact ht3 t hm ht
        ·have:=(htagn' t (hfs t ht)).2
         rw [(e6 t hm).2] at this;cases this
       obtain ⟨us0,g1,g2,g3,g4⟩:=(ycxy 64).1 _ _ _ _ _ hp
       obtain ⟨γ3,φ3,used2,f1,f2,f3,f4,f5,f6,f7⟩:=(yeyy 64).1 _ _ _ _ _ _ _ _ _ _ hp e2 hriv hn1 ((hown.sub (by simp +contextual)).only e3 (fun b hb hm=>hn3 b hm hb)) ht2
        (fun t ht=>(e3.out t (hnr t ht)).1.trans (htag1 t (hfs t ht))) (fun y hy=>by
         have hyf:y.1∈fs:=by rw [g1];simp [g4 y hy]
         obtain ⟨i1,i2⟩:=hfr y (by simp [hy]) (htagn _ (hfs _ hyf))
         refine ⟨by rw [yb4y,hlen];exact i1,?_⟩
         cases hq:occSt y.1 (S1.upd u) with
         | false=>rfl
         | true =>
          rcases yfky hq with hq | ⟨z,hz,hq⟩
          ·rw [hocc1 _ i2] at hq;cases hq
          ·exact absurd hyf (ht3 _ (e5 z hz _ hq)))
       have hfin:S.upd (shut++(goneU S.look ts++(u++u'))) = (S1.upd u).upd u':=by rw [ybey,ybey,ybey,hS1]
       exact ⟨x,_,_,γ3,φ3,av1,hk,by rw [hfin];exact f2,by rw [hfin];exact f3⟩
      ·cases hk
   ·cases hk
theorem ywDy (E:Env A) (hC:ylhy E.P E.T E.C) (hfl:yemy E.T E.flat) (h:Rel E.T w0 F0 X γ φ av w tmps S) {tags:List Nat} {f:Nat} {caps args:List (AV A)} {us:List Value}
  (hx:RAVs E.T w av S.look γ (args++caps) us) (hocc:∀ t,yady t (args++caps) = true→occSt t S = true) (hf:∀ v u ts,k v u ts = some res→yazy S u = true)
  (hk:callK E S.look k tags f caps args = some res) :
  ybEy E.P f∧Calls E.P f us.toArray w (fun e w'=>∃ v,e = .returned v∧After E.T w0 F0 X tmps S k res v w') :=
 yuSy E (fun spec hs=>⟨fun args R k res hk F av a b c d e=>(hC f spec hs).1 args R k res hk w us F av a b c d e,(hC f spec hs).2⟩) hfl h hx hocc hf hk
structure BldSame (w w':World) (b:Nat) (v:Value) (dr:Bool):Prop where
 os:w'.os = w.os
 tape:w'.tape = w.tape
 drawn:dr = true→w.drawn≤w'.drawn
 output:w'.output = w.output
 size:w.heap.size≤w'.heap.size
 block:∀ k,k < w.heap.size→k≠b→v.ownBlock≠some k→w'.heap[k]? = w.heap[k]?
def yA9y (mp:Bool) (v:Value):Prop:=(mp = true→∃ b,v = .map (some b))∧(mp = false→∃ a n c,v = .slice a n c)
def SpOk (P:Program) (T:Ty A) (f:Nat):Sp A→Prop
 | .wrap f1 mp=>ybEy P f∧∀ (v:Value) (w:World),yA9y mp v→Calls P f #[v] w fun e w'=>e = .returned (.func (.func f1) #[] #[.pointer (some ⟨w.heap.size,0,none⟩)])∧∃ ty,w' = w.alloc (.cells #[v] ty)
 | .keys fs k srt=>ybEy P f∧∀ f1∈fs,∀ (w:World) (av:Nat→Prop) (B b:Nat) (ty:TypeId) (es:Array MapEntry) (clock e:Nat) (m:List (A k×A e)) (xs:List (A k)),
   w.heap[B]? = some (.cells #[.map (some b)] ty (0,0))→w.heap[b]? = some (.map es clock)→yaBy T w av k e es.toList m→yb9y es clock→srt (m.map (·.1)) = some xs →
   Calls P f #[.func (.func f1) #[] #[.pointer (some ⟨B,0,none⟩)]] w fun r w'=>∃ v ob,r = .returned v∧OwnSl T w' k xs.length ob v∧(∀ c,ob = some c→w.heap.size≤c∧c < w'.heap.size∧∃ cs ty,w'.heap[c]? = some (.cells cs ty (0,0))∧∀ av,Row T w' av cs 0 k xs) ∧
    Left T w w' (fun _=>False)
 | .bwr=>ybEy P f∧∀ (w:World) (tb te b:Nat) (p v:Value) (s0 s:List UInt8),T.bld = some (tb,te)→Bld w tb te b p v s0→s0.length + s.length≤140737488355328 →
   Calls P f #[.pointer (some ⟨b,0,none⟩),.string ⟨⟨s⟩⟩] w fun e w'=>e = .returned (.tuple #[.int .i64 s.length,.nilIface])∧∃ p' v',Bld w' tb te b p' v' (s0++s)∧(∀ g,v'.ownBlock = some g→v.ownBlock = some g ∨ w.heap.size≤g)∧BldSame w w' b v T.dr
 | .bln=>ybEy P f∧∀ (w:World) (tb te b:Nat) (p v:Value) (s:List UInt8),T.bld = some (tb,te)→Bld w tb te b p v s →
   Calls P f #[.pointer (some ⟨b,0,none⟩)] w fun e w'=>e = .returned (.int .i64 s.length)∧w' = w
 | .bst=>ybEy P f∧∀ (w:World) (tb te b:Nat) (p v:Value) (s:List UInt8),T.bld = some (tb,te)→Bld w tb te b p v s →
   Calls P f #[.pointer (some ⟨b,0,none⟩)] w fun e w'=>e = .returned (.string ⟨⟨s⟩⟩)∧BldSame w w' b v T.dr
theorem Rel.wrapShape (h:Rel T w0 F0 X γ φ av w tmps S) {x:AV A} {v:Value} {mp:Bool} (hx:RAV T w av S.look γ x v) (h2:wrapV S.look mp x = true):yA9y mp v:=by
 cases mp with
 | true =>
  refine ⟨fun _=>?_,fun hh=>Bool.noConfusion hh⟩
  cases x <;> simp only [wrapV] at h2 <;> try (cases h2;done)
  rename_i u
  cases ho:S.look u with
  | none=>rw [ho] at h2;cases h2
  | some o =>
   rw [ho] at h2
   cases o <;> simp only at h2 <;> try (cases h2;done)
   simp only [RAV] at hx
   obtain ⟨hv,_⟩:=hx _ ho
   have hob:=h.ob u _ ho
   simp only [ROb,RIV] at hob
   obtain ⟨b,es,clock,hg,_⟩:=hob
   exact ⟨b,by first | exact hv.trans hg | exact hv.symm.trans hg⟩
 | false =>
  refine ⟨fun hh=>Bool.noConfusion hh,fun _=>?_⟩
  have dat:∀ (e:Nat) (xs:List (A e)) (v:Value),DR T w av (.sl e xs) v→∃ a n c,v = .slice a n c:=by
   intro e xs v hx
   obtain ⟨n,hx⟩:=hx
   cases n <;> simp only [DRep] at hx
   ·obtain ⟨_,a,cap,rfl,_⟩:=hx;exact ⟨_,_,_,rfl⟩
   ·obtain ⟨a,cap,rfl,_⟩:=hx;exact ⟨_,_,_,rfl⟩
  cases x <;> simp only [wrapV] at h2 <;> try (cases h2;done)
  case d y =>
   cases y <;> simp only [wrapV] at h2 <;> try (cases h2;done)
   simp only [RAV] at hx
   exact dat _ _ _ hx
  case own e u =>
   cases ho:S.look u with
   | none=>rw [ho] at h2;cases h2
   | some o =>
    simp only [RAV] at hx
    obtain ⟨hv,_⟩:=hx _ ho
    have hob:=h.ob u _ ho
    rw [ho] at h2
    cases o <;> simp only at h2 <;> try (cases h2;done)
    ·simp only [ROb,RIV] at hob
     obtain ⟨ob,_,hown,_⟩:=hob
     cases ob <;> simp only [OwnSl] at hown
     ·obtain ⟨_,hg⟩:=hown;exact ⟨_,_,_,by first | exact hv.trans hg | exact hv.symm.trans hg⟩
     ·obtain ⟨cap,c,ty,hg,_⟩:=hown;exact ⟨_,_,_,by first | exact hv.trans hg | exact hv.symm.trans hg⟩
    ·simp only [ROb] at hob
     obtain ⟨a,n,c,hg⟩:=dat _ _ _ hob.2.1
     exact ⟨a,n,c,by first | exact hv.trans hg | exact hv.symm.trans hg⟩
theorem yoSy {look:Nat→Option (Ob A)} {x:AV A} {t:Nat} {s:List UInt8} (h:bldOf look x = some (t,s)):x = .ptr t 0∧look t = some (.bld s):=by
 unfold bldOf at h
 split at h
 ·split at h
  ·rename_i hl;cases h;exact ⟨rfl,hl⟩
  ·cases h
 ·cases h
theorem Bld.lt {w:World} {tb te b:Nat} {p v:Value} {s:List UInt8} (h:Bld w tb te b p v s) (g:Nat) (hg:v.ownBlock = some g):g < w.heap.size:=(h.row.lt g hg).2
theorem Rel.bldTurn (h:Rel T w0 F0 X γ φ av w tmps S) {t:Nat} {s:List UInt8} (ho:S.look t = some (.bld s)) {tb te b:Nat} {p v:Value} (hT:T.bld = some (tb,te)) (hg:γ t = .pointer (some ⟨b,0,none⟩)) (hφ:φ t = b::v.ownBlock.toList)
  (hB:Bld w tb te b p v s) (hsm:BldSame w w' b v T.dr) (o:Ob A) (hk:o.kind = (1,0)) (F:List Nat) (hF:∀ g∈F,g∈φ t ∨ (w.heap.size≤g∧g < w'.heap.size)) (hnd:F.Nodup)
  (hob:∀ γ' φ' av',γ' t = .pointer (some ⟨b,0,none⟩)→φ' t = F→ROb T w' av' (S.upd [(t,some o)]).look γ' φ' t o) :
  ∃ γ' φ' av',Rel T w0 F0 X γ' φ' av' w' tmps (S.upd [(t,some o)])∧γ' t = .pointer (some ⟨b,0,none⟩):=by
 have hlt:=ybgy ho
 have hl:∀ u,(S.upd [(t,some o)]).look u = if u = t then some o else S.look u:=by
  intro u;rw [yhUy,yayy];by_cases hu:u = t <;> simp [hu,hlt]
 let φ':Nat→List Nat:=fun u=>if u = t then F else φ u
 let av':Nat→Prop:=fun c=>(av c∧c ∉ φ t) ∨ c∈F
 have hφt:φ' t = F:=by simp [φ']
 have hφn:∀ u,u≠t→φ' u = φ u:=fun u hu=>by simp [φ',hu]
 have hout:∀ c,c < w.heap.size→c ∉ φ t→w'.heap[c]? = w.heap[c]?:=by
  intro c hc hn
  rw [hφ] at hn
  simp only [List.mem_cons,not_or] at hn
  exact hsm.block c hc hn.1 (fun e=>hn.2 (by rw [e];simp))
 have hpres:Pres w av w' av':=by
  intro c ob hc hob
  have hcl:c < w.heap.size:=by
   rcases Nat.lt_or_ge c w.heap.size with h | h
   ·exact h
   ·simp [Array.getElem?_eq_none h] at hob
  refine ⟨by rw [hout c hcl (fun hm=>hc (h.av_of ho hm))];exact hob,?_⟩
  rintro (hx | hx)
  ·exact hc hx.1
  ·rcases hF c hx with h1 | h1
   ·exact hc (h.av_of ho h1)
   ·omega
 refine ⟨γ,φ',av',?_,hg⟩
 refine h.upd (fun u=>u = t) (by rw [yhUy]) hpres ?_ ?_ ?_ ?_ ?_ ?_ ?_ ?_ ?_ hsm.size ?_
 ·intro u hu;exact ⟨by rw [hl,if_neg hu],rfl,hφn u hu⟩
 ·intro u o' hu ho' c hc
  exact hout c (h.fp u o' ho' c hc).2 (fun hm=>h.disj u o' t _ ho' ho hu c hc hm)
 ·intro u hu _ o' ho'
  subst hu
  rw [hl,if_pos rfl] at ho'
  cases ho'
  exact ⟨_,ho,rfl,hk⟩
 ·intro u o' hu ho'
  subst hu
  rw [hl,if_pos rfl] at ho'
  cases ho'
  exact hob γ φ' av' hg hφt
 ·intro u o' hu _;subst hu;rw [hφt];exact hnd
 ·intro u o' u' o'' hu _ ho'' hne c hc hc'
  subst hu
  rw [hφn u' (Ne.symm hne)] at hc'
  rw [hl,if_neg (Ne.symm hne)] at ho''
  rw [hφt] at hc
  rcases hF c hc with h1 | h1
  ·exact h.disj _ _ u' o'' ho ho'' hne c h1 hc'
  ·have:=(h.fp u' o'' ho'' c hc').2;omega
 ·rintro c (hx | ⟨u,o',ho',hm⟩)
  ·refine .inl ⟨h.avs c (.inl hx),fun hm=>?_⟩
   have h1:=(h.fp t _ ho c hm).1
   have h2:=h.x c hx
   rcases h1 with h1 | h1
   ·exact h2.2 h1
   ·omega
  ·by_cases hu:u = t
   ·subst hu;rw [hφt] at hm;exact .inr hm
   ·rw [hl,if_neg hu] at ho';rw [hφn u hu] at hm
    exact .inl ⟨h.avs c (.inr ⟨u,o',ho',hm⟩),fun hm'=>h.disj u o' t _ ho' ho hu c hm hm'⟩
 ·rintro c (hc | hc)
  ·exact Nat.lt_of_lt_of_le (h.avlt c hc.1) hsm.size
  ·rcases hF c hc with h1 | h1
   ·exact Nat.lt_of_lt_of_le (h.fp t _ ho c h1).2 hsm.size
   ·exact h1.2
 ·intro u o' hu _ c hc
  subst hu
  rw [hφt] at hc
  rcases hF c hc with h1 | h1
  ·have:=h.fp _ _ ho c h1
   exact ⟨this.1,Nat.lt_of_lt_of_le this.2 hsm.size⟩
  ·exact ⟨.inr (Nat.le_trans h.left.size h1.1),h1.2⟩
 ·obtain ⟨a,b',c,d,e⟩:=h.left
  refine ⟨hsm.os.trans a,b'.trans ⟨hsm.tape,hsm.drawn⟩,hsm.output.trans c,Nat.le_trans d hsm.size,fun i hi hn=>?_⟩
  rw [hout i (Nat.lt_of_lt_of_le hi d) (fun hm=>by
   rcases (h.fp t _ ho i hm).1 with h1 | h1
   ·exact hn h1
   ·omega)]
  exact e i hi hn
theorem ywsy (E:Env A) (hC:ylhy E.P E.T E.C) (hsp:∀ f s,E.sp f = some s→SpOk E.P E.T f s) (hfl:yemy E.T E.flat) (h:Rel E.T w0 F0 X γ φ av w tmps S) {tags:List Nat} {f:Nat} {caps args:List (AV A)} {us:List Value}
  (hx:RAVs E.T w av S.look γ (args++caps) us) (hocc:∀ t,yady t (args++caps) = true→occSt t S = true) (hf:∀ v u ts,k v u ts = some res→yazy S u = true)
  (hk:callS E S.look k tags f caps args = some res) :
  ybEy E.P f∧Calls E.P f us.toArray w (fun e w'=>∃ v,e = .returned v∧After E.T w0 F0 X tmps S k res v w'):=by
 unfold callS at hk
 cases hs:E.sp f with
 | none=>rw [hs] at hk;exact ywDy E hC hfl h hx hocc hf hk
 | some s =>
  rw [hs] at hk
  have hok:=hsp f s hs
  cases s with
  | wrap f1 mp =>
   simp only at hk
   obtain ⟨hen,hcall⟩:=hok
   refine ⟨hen,?_⟩
   generalize args++caps = l at hk hx hocc
   unfold wrapK at hk
   split at hk
   ·rename_i x t hnt
    split at hk
    ·rename_i hone
     rw [Bool.and_eq_true] at hone
     simp only [RAVs] at hx
     obtain ⟨v,vs',rfl,h1,rfl,_⟩:=hx
     refine (hcall v w (h.wrapShape h1 hone.2)).mono ?_
     rintro e w' ⟨rfl,ty,rfl⟩
     have hno:=yc5y hnt
     obtain ⟨hlt,ho⟩:=ycJy (hf _ _ _ hk) (List.mem_singleton.2 rfl) hno
     obtain ⟨γ',φ',av',hR,hb⟩:=h.new_box hlt hno ho (cs:=[x]) (vs:=#[v]) ty (by simp only [RAVs];exact ⟨v,[],rfl,h1,rfl⟩) (fun u hu=>hocc u hu)
     refine ⟨_,rfl,_,_,_,γ',φ',av',hk,hR,?_⟩
     simp only [RAV,RAVs]
     exact ⟨#[_],rfl,_,[],rfl,hb,rfl⟩
    ·cases hk
   ·cases hk
  | bwr =>
   simp only at hk
   obtain ⟨hen,hcall⟩:=hok
   refine ⟨hen,?_⟩
   generalize args++caps = l at hk hx hocc
   unfold bldK at hk
   split at hk <;> (try (cases hk;done)) <;> (try (rename_i hne0;exact absurd hne0 (by decide)))
   rename_i x s _
   split at hk
   ·rename_i t s0 hbo
    obtain ⟨rfl,ho⟩:=yoSy hbo
    cases hle:decide (s0.length + s.length≤140737488355328) with
    | false=>rw [hle] at hk;cases hk
    | true =>
     rw [hle] at hk
     simp only [RAVs,RAV] at hx
     obtain ⟨v1,vs1,rfl,hp,v2,vs2,rfl,hs2,rfl⟩:=hx
     rw [DR.str] at hs2
     subst hs2
     obtain ⟨⟨b,hg,rfl⟩,_⟩:=hp _ ho
     have hob:=h.ob t _ ho
     simp only [ROb] at hob
     obtain ⟨tb,te,b',p,v,hT,hg',hφ,hB⟩:=hob
     obtain rfl:b = b':=by rw [hg] at hg';simpa using hg'
     refine (hcall w tb te b p v s0 s hT hB (of_decide_eq_true hle)).mono ?_
     rintro e w' ⟨rfl,p',v',hB',hown,hsm⟩
     obtain ⟨γ',φ',av',hR,hv⟩:=h.bldTurn ho hT hg hφ hB hsm (.bld (s0++s)) rfl (b::v'.ownBlock.toList) (fun g hg=>by
       rcases List.mem_cons.1 hg with rfl | hg
       ·exact .inl (by rw [hφ];exact List.mem_cons_self)
       ·rcases hown g (by simpa using hg) with h1 | h1
        ·exact .inl (by rw [hφ];simp [h1])
        ·exact .inr ⟨h1,hB'.lt g (by simpa using hg)⟩) (by
       cases hq:v'.ownBlock with
       | none=>simp
       | some g=>simp only [Option.toList_some,List.nodup_cons,List.mem_singleton,List.not_mem_nil,not_false_eq_true,List.nodup_nil,and_self,and_true];rintro rfl;exact hB'.ne hq)
      (fun γ' φ' av' hγ hφ'=>by simp only [ROb];exact ⟨tb,te,b,p',v',hT,hγ,hφ',hB'⟩)
     refine ⟨_,rfl,_,_,_,γ',φ',av',hk,hR,?_⟩
     simp only [RAV,RAVs,DR.int]
     exact ⟨_,rfl,_,_,rfl,rfl,_,_,rfl,DR.nilif.2 rfl,rfl⟩
   ·cases hk
  | bln =>
   simp only at hk
   obtain ⟨hen,hcall⟩:=hok
   refine ⟨hen,?_⟩
   generalize args++caps = l at hk hx hocc
   unfold bldK at hk
   split at hk <;> (try (cases hk;done)) <;> (try (rename_i hne0;exact absurd hne0 (by decide)))
   rename_i x hne
   split at hk
   ·rename_i t s hbo
    obtain ⟨rfl,ho⟩:=yoSy hbo
    simp only [RAVs,RAV] at hx
    obtain ⟨v1,vs1,rfl,hp,rfl⟩:=hx
    obtain ⟨⟨b,hg,rfl⟩,_⟩:=hp _ ho
    have hob:=h.ob t _ ho
    simp only [ROb] at hob
    obtain ⟨tb,te,b',p,v,hT,hg',hφ,hB⟩:=hob
    obtain rfl:b = b':=by rw [hg] at hg';simpa using hg'
    refine (hcall w tb te b p v s hT hB).mono ?_
    rintro e w' ⟨rfl,rfl⟩
    exact ⟨_,rfl,_,_,_,γ,φ,av,hk,h,by simp only [RAV,DR.int]⟩
   ·cases hk
  | bst =>
   simp only at hk
   obtain ⟨hen,hcall⟩:=hok
   refine ⟨hen,?_⟩
   generalize args++caps = l at hk hx hocc
   unfold bldK at hk
   split at hk <;> (try (cases hk;done)) <;> (try (rename_i hne0;exact absurd hne0 (by decide)))
   rename_i x hne
   split at hk
   ·rename_i t s hbo
    obtain ⟨rfl,ho⟩:=yoSy hbo
    simp only [RAVs,RAV] at hx
    obtain ⟨v1,vs1,rfl,hp,rfl⟩:=hx
    obtain ⟨⟨b,hg,rfl⟩,_⟩:=hp _ ho
    have hob:=h.ob t _ ho
    simp only [ROb] at hob
    obtain ⟨tb,te,b',p,v,hT,hg',hφ,hB⟩:=hob
    obtain rfl:b = b':=by rw [hg] at hg';simpa using hg'
    refine (hcall w tb te b p v s hT hB).mono ?_
    rintro e w' ⟨rfl,hsm⟩
    obtain ⟨γ',φ',av',hR,hv⟩:=h.bldTurn ho hT hg hφ hB hsm (.gone (1,0)) rfl [] (fun g hg=>by cases hg) List.nodup_nil (fun γ' φ' av' hγ hφ'=>by simp only [ROb];exact ⟨hφ',by rw [hγ];rfl⟩)
    exact ⟨_,rfl,_,_,_,γ',φ',av',hk,hR,by simp only [RAV,DR.str]⟩
   ·cases hk
  | keys f1 kk srt =>
   simp only at hk
   obtain ⟨hen,hcall⟩:=hok
   generalize args++caps = l at hk hx hocc
   unfold ykcy at hk
   split at hk
   ·rename_i tB t ks hko
    split at hko
    ·rename_i g tB'
     split at hko
     ·rename_i hg
      split at hko
      ·rename_i t' hlB
       split at hko
       ·rename_i k' e m hlm
        simp only [Option.map_eq_some_iff,Prod.mk.injEq] at hko
        obtain ⟨ks',hcast,rfl,rfl,rfl⟩:=hko
        unfold castL at hcast
        split at hcast
        ·rename_i hkk
         subst hkk
         simp only [Option.some.injEq] at hcast
         subst hcast
         cases hsr:srt (m.map (·.1)) with
         | none=>rw [hsr] at hk;cases hk
         | some xs =>
          simp only [hsr] at hk
          simp only [RAVs,RAV] at hx
          obtain ⟨v,vs',rfl,⟨vs,rfl,p,ps',hvs,hp,rfl,_⟩,rfl,_⟩:=hx
          obtain ⟨⟨b0,hg0,rfl⟩,_⟩:=hp _ hlB
          have hob:=h.ob _ _ hlB
          simp only [ROb,RAVs,RAV] at hob
          obtain ⟨b1,c,ty,hg1,hφ1,hc,⟨u,us',hcu,hu,rfl,_⟩⟩:=hob
          have hbb:b0 = b1:=by rw [hg0] at hg1;simpa using hg1
          subst hbb
          obtain ⟨hum,_⟩:=hu _ hlm
          have hom:=h.ob _ _ hlm
          simp only [ROb,RIV] at hom
          obtain ⟨b,es,clock,hgm,hφm,hmb,hrep,hst⟩:=hom
          have hvs1:vs = #[_]:=Array.toList_inj.1 hvs
          subst hvs1
          have hc1:c = #[u]:=Array.toList_inj.1 hcu
          subst hc1
          have hub:u = .map (some b):=by first | exact hum.trans hgm | exact hum.symm.trans hgm
          subst hub
          have hcl:=hcall _ (List.contains_iff_mem.1 hg) w av b0 b ty es clock e m xs hc hmb hrep hst hsr
          suffices hsuf:ybEy E.P f∧Calls E.P f _ w (fun e w'=>∃ v,e = .returned v∧After E.T w0 F0 X tmps S (fun v u ts=>k v u (tB'::t'::ts)) res v w') by
           refine ⟨hsuf.1,hsuf.2.mono ?_⟩
           rintro e w' ⟨v,he,a1,a2,a3,a4,a5,a6,a7,a8⟩
           exact ⟨v,he,a1,a2,_,a4,a5,a6,a7,a8⟩
          refine yuSy (E.giving _ xs) (us:=[_]) (f:=f) (fun spec hspec=>⟨?_,hen⟩) hfl h (args:=[.undef]) (caps:=[]) (by simp only [List.append_nil,RAVs,RAV];exact ⟨_,[],rfl,trivial,rfl⟩) (fun t ht=>by simp [yady,occAV] at ht) (fun v u ts hv=>hf _ _ _ hv) hk
          simp only [Env.giving,Option.some.injEq] at hspec
          subst hspec
          intro args R' k' res' hk' F av1 hri hnd hF hav _
          refine hcl.mono ?_
          rintro e' w' ⟨v,ob,rfl,hown,hfr,hleft⟩
          refine ⟨_,_,v,ob.toList,[],fun c=>(av1 c∧c ∉ F) ∨ c∈ob.toList++[],hk',rfl,?_,?_,?_,fun b hb=>hb,?_,?_⟩
          ·simp only [RIV]
           exact ⟨ob,rfl,hown,fun c hc=>by obtain ⟨_,_,cs,ty,h1,h2⟩:=hfr c hc;exact ⟨cs,ty,h1,h2 _⟩⟩
          ·simp only [RIVs,RIV]
           exact ⟨_,[],[],[],rfl,rfl,rfl,rfl,rfl⟩
          ·cases ob <;> simp
          ·intro c hc
           rw [List.append_nil,Option.mem_toList] at hc
           obtain ⟨h1,h2,_⟩:=hfr c hc
           exact ⟨.inr h1,h2⟩
          ·exact ⟨hleft.os,hleft.tape,hleft.output,hleft.size,fun c hc _=>hleft.block c hc (fun h=>h)⟩
        ·cases hcast
       ·cases hko
      ·cases hko
     ·cases hko
    ·cases hko
   ·cases hk
end Go.Am
