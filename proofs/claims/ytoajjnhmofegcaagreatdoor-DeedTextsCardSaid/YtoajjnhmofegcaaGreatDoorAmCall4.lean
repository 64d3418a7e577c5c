/- Part of an abstract machine for this program, with its soundness: AmCall4. No condition: lemmas for the claim. -/
import Derived.Test.YtoajjnhmofegcaaGreatDoorAmCall
set_option linter.unusedVariables false
set_option linter.unusedSimpArgs false
namespace Go.Am
open Go
variable {A:Nat→Type}
variable {T:Ty A} {w0 w w':World} {F0:List Nat} {X:Nat→Prop} {γ γ':Nat→Value} {φ φ':Nat→List Nat} {av av':Nat→Prop} {tmps:Array Value} {S S':St A} {R:Type} {P:Program}
theorem Only.mono {used used' F F':List Nat} (h:Only S S' γ γ' φ φ' used F) (hu:∀ t,t∈used→t∈used') (hn:∀ t,t∈used'→t∈used) (hf:∀ b∈F,b∈F'):Only S S' γ γ' φ φ' used' F' :=
 ⟨fun t ht=>h.out t (fun hm=>ht (hu t hm)),fun t ht b hb=>hf b (h.inn t (hn t ht) b hb),h.len⟩
theorem yauy.trans' {look look' look'':Nat→Option (Ob A)} {γ γ' γ'':Nat→Value} {t:Nat} (h:yauy look γ look' γ' t) (h':yauy look' γ' look'' γ'' t):yauy look γ look'' γ'' t:=by
 intro o ho
 obtain ⟨o1,h1,h2,h3⟩:=h' o ho
 obtain ⟨o2,h4,h5,h6⟩:=h o1 h1
 exact ⟨o2,h4,h2.trans h5,h3.trans h6⟩
theorem yuly (hr:Rel T w0 F0 X γ φ av w tmps S) {t:Nat} {o:Ob A} {kd:Nat×Nat} (hg:S.look t = some (.gone kd)) (hlt:t < S.st.length) (hk:o.kind = kd) {F:List Nat} (hnd:F.Nodup) (hown:Own w0 F0 X φ av w S F)
  (hob:∀ γ' φ',γ' t = γ t→φ' t = F→(∀ u,u≠t→γ' u = γ u∧St.look { S with st:=S.st.set t (some o) } u = S.look u)→ROb T w av (St.look { S with st:=S.st.set t (some o) }) γ' φ' t o) :
  ∃ γ' φ',Rel T w0 F0 X γ' φ' av w tmps (S.upd [(t,some o)])∧Only S (S.upd [(t,some o)]) γ γ' φ φ' [t] F∧(∀ u,yauy S.look γ (S.upd [(t,some o)]).look γ' u):=by
 obtain ⟨γ',φ',a1,a2,a3,a4⟩:=hr.ins' hlt o (γ t) F (.inr ⟨kd,hg,hk,rfl⟩) hnd hown hob
 refine ⟨γ',φ',a1,a4,fun u=>?_⟩
 by_cases hu:u = t
 ·subst hu
  intro o' ho'
  have ho2:St.look { S with st:=S.st.set u (some o) } u = some o':=ho'
  rw [a3] at ho2;cases ho2
  exact ⟨_,hg,a2,hk⟩
 ·have:=a4.out u (by simpa using hu)
  exact yauy.same this.1 this.2.1
theorem yCoy:∀ n,
  (∀ (wr:Bool) (v:AV A) iv fs u fs',yaOy wr n v iv fs = some (u,fs')→(∀ y∈u,y.1∈fs ∨ occAV y.1 v = true)∧∀ t∈fs',t∈fs) ∧
  (∀ (wr:Nat→Bool) (j:Nat) (vs:List (AV A)) ivs fs u fs',ybay wr j n vs ivs fs = some (u,fs')→(∀ y∈u,y.1∈fs ∨ yady y.1 vs = true)∧∀ t∈fs',t∈fs):=by
 intro n
 induction n with
 | zero=>exact ⟨fun wr v iv fs u fs' h=>by simp [yaOy] at h,fun wr j vs ivs fs u fs' h=>by simp [ybay] at h⟩
 | succ n ih =>
  refine ⟨fun wr v iv fs u fs' h=>?_,fun wr j vs ivs fs u fs' h=>?_⟩
  ·cases v <;> simp only [yaOy] at h <;> try (cases h;done)
   case undef=>simp at h;obtain ⟨rfl,rfl⟩:=h;simp
   case d x=>simp at h;obtain ⟨rfl,rfl⟩:=h;simp
   case cel cs off=>simp at h;obtain ⟨rfl,rfl⟩:=h;simp
   case agg cs=>simp at h;obtain ⟨rfl,rfl⟩:=h;simp
   case own e t =>
    cases wr with
    | false=>simp at h;obtain ⟨rfl,rfl⟩:=h;simp
    | true =>
     simp only [if_true] at h
     cases iv <;> (try simp only at h) <;> try (cases h;done)
     ·simp at h;obtain ⟨rfl,rfl⟩:=h;simp
     ·split at h
      ·simp at h;obtain ⟨rfl,rfl⟩:=h;simp [occAV]
      ·cases h
   case mp t =>
    cases iv <;> simp only [yaOy] at h <;> try (cases h;done)
    simp at h;obtain ⟨rfl,rfl⟩:=h;simp [occAV]
   case fn f cs =>
    cases iv <;> simp only [yaOy] at h <;> try (cases h;done)
    split at h
    ·simpa only [occAV] using ih.2 _ _ _ _ _ _ _ h
    ·cases h
   case ptr t off =>
    cases off with
    | succ m=>simp [yaOy] at h
    | zero =>
     cases iv <;> simp only [yaOy] at h <;> try (cases h;done)
     ·simp at h;obtain ⟨rfl,rfl⟩:=h;simp
     ·rename_i xs
      cases hc:yaLy n xs fs with
      | none=>simp [hc] at h
      | some p =>
       obtain ⟨cs,u',f'⟩:=p
       simp [hc] at h
       obtain ⟨rfl,rfl⟩:=h
       obtain ⟨us0,c1,c2,c3,c4⟩:=(ycxy n).2 _ _ _ _ _ hc
       refine ⟨fun y hy=>?_,fun t ht=>by rw [c1];simp [ht]⟩
       rcases List.mem_append.1 hy with hy | hy
       ·left;rw [c1];simp [c4 y hy]
       ·simp at hy;subst hy;simp [occAV]
  ·cases vs with
   | nil =>
    cases ivs <;> simp only [ybay] at h <;> try (cases h;done)
    simp at h
    obtain ⟨rfl,rfl⟩:=h
    simp
   | cons v vs =>
    cases ivs with
    | nil=>simp [ybay] at h
    | cons iv ivs =>
     simp only [ybay] at h
     cases hc:yaOy (wr j) n v iv fs with
     | none=>simp [hc] at h
     | some p =>
      obtain ⟨u1,f1⟩:=p
      cases hc2:ybay wr (j + 1) n vs ivs f1 with
      | none=>simp [hc,hc2] at h
      | some q =>
       obtain ⟨u2,f2⟩:=q
       simp [hc,hc2] at h
       obtain ⟨rfl,rfl⟩:=h
       obtain ⟨a1,a2⟩:=ih.1 _ _ _ _ _ _ hc
       obtain ⟨b1,b2⟩:=ih.2 _ _ _ _ _ _ _ hc2
       refine ⟨fun y hy=>?_,fun t ht=>a2 t (b2 t ht)⟩
       rcases List.mem_append.1 hy with hy | hy
       ·exact (a1 y hy).imp id (fun h=>by simp [yady,h])
       ·exact (b1 y hy).imp (a2 _) (fun h=>by simp [yady,h])
theorem yy8y:∀ n,
  (∀ (wr:Bool) (v:AV A) iv uv F fs u fs' (S:St A) γ φ,yaOy wr n v iv fs = some (u,fs')→Rel T w0 F0 X γ φ av w tmps S→RAV T w av S.look γ v uv→RIV T w av iv uv F→F.Nodup→Own w0 F0 X φ av w S F→fs.Nodup →
   (∀ t∈fs,S.look t = none)→(∀ t,occAV t v = true→t ∉ fs)→(u.map (·.1)).Nodup→(∀ y∈u,y.1 < S.st.length∧((y.1∈fs∧occSt y.1 S = false) ∨ ∃ kd,S.look y.1 = some (.gone kd))) →
   ∃ γ' φ' used roots,fs = used++fs'∧Rel T w0 F0 X γ' φ' av w tmps (S.upd u)∧Only S (S.upd u) γ γ' φ φ' (used++roots) F∧(∀ t,t ∉ fs→yauy S.look γ (S.upd u).look γ' t) ∧
    (∀ y∈u,∀ t,occOb t y.2 = true→t∈used)∧(∀ t∈roots,(∃ y∈u,y.1 = t)∧occAV t v = true)) ∧
  (∀ (wr:Nat→Bool) (j:Nat) (vs:List (AV A)) ivs uvs F fs u fs' (S:St A) γ φ,ybay wr j n vs ivs fs = some (u,fs')→Rel T w0 F0 X γ φ av w tmps S→RAVs T w av S.look γ vs uvs→RIVs T w av ivs uvs F→F.Nodup→Own w0 F0 X φ av w S F→fs.Nodup →
   (∀ t∈fs,S.look t = none)→(∀ t,yady t vs = true→t ∉ fs)→(u.map (·.1)).Nodup→(∀ y∈u,y.1 < S.st.length∧((y.1∈fs∧occSt y.1 S = false) ∨ ∃ kd,S.look y.1 = some (.gone kd))) →
   ∃ γ' φ' used roots,fs = used++fs'∧Rel T w0 F0 X γ' φ' av w tmps (S.upd u)∧Only S (S.upd u) γ γ' φ φ' (used++roots) F∧(∀ t,t ∉ fs→yauy S.look γ (S.upd u).look γ' t) ∧
    (∀ y∈u,∀ t,occOb t y.2 = true→t∈used)∧(∀ t∈roots,(∃ y∈u,y.1 = t)∧yady t vs = true)):=by
 intro n
 induction n with
 | zero=>exact ⟨fun wr v iv uv F fs u fs' S γ φ h=>by simp [yaOy] at h,fun wr j vs ivs uvs F fs u fs' S γ φ h=>by simp [ybay] at h⟩
 | succ n ih =>
  refine ⟨fun wr v iv uv F fs u fs' S γ φ h hr hv hiv hnd hown hfs hno hocc hu hy=>?_,fun wr j vs ivs uvs F fs u fs' S γ φ h hr hv hiv hnd hown hfs hno hocc hu hy=>?_⟩
  ·have triv:u = []→fs' = fs→∃ γ' φ' used roots,fs = used++fs'∧Rel T w0 F0 X γ' φ' av w tmps (S.upd u)∧Only S (S.upd u) γ γ' φ φ' (used++roots) F∧(∀ t,t ∉ fs→yauy S.look γ (S.upd u).look γ' t) ∧
     (∀ y∈u,∀ t,occOb t y.2 = true→t∈used)∧(∀ t∈roots,(∃ y∈u,y.1 = t)∧occAV t v = true):=by
    rintro rfl rfl
    exact ⟨γ,φ,[],[],rfl,hr,Only.refl.mono (by simp) (by simp) (by simp),fun t _=>yauy.same rfl rfl,by simp,by simp⟩
   have one:∀ (t:Nat) (o:Ob A),u = [(t,some o)]→fs' = fs→occAV t v = true→(∀ q,occOb q (some o) = false)→(∀ kd,S.look t = some (.gone kd)→o.kind = kd) →
     (∀ γ' φ' look,γ' t = γ t→φ' t = F→S.look t≠none→ROb T w av look γ' φ' t o)→∃ γ' φ' used roots,fs = used++fs'∧Rel T w0 F0 X γ' φ' av w tmps (S.upd u)∧Only S (S.upd u) γ γ' φ φ' (used++roots) F∧(∀ t,t ∉ fs→yauy S.look γ (S.upd u).look γ' t) ∧
     (∀ y∈u,∀ t,occOb t y.2 = true→t∈used)∧(∀ t∈roots,(∃ y∈u,y.1 = t)∧occAV t v = true):=by
    rintro t o rfl rfl ht ho hk hob
    obtain ⟨h1,h2⟩:=hy (t,some o) (by simp)
    obtain ⟨kd,hg⟩:=h2.resolve_left (fun h=>hocc t ht h.1)
    obtain ⟨γ',φ',a1,a2,a3⟩:=yuly hr hg h1 (hk kd hg) hnd hown (fun γ' φ' b1 b2 b3=>hob γ' φ' _ b1 b2 (by rw [hg];simp))
    exact ⟨γ',φ',[],[t],rfl,a1,a2,fun t _=>a3 t,by simp [ho],by simp [ht]⟩
   cases v with
   | undef=>simp [yaOy] at h;exact triv h.1 h.2.symm
   | d x=>simp [yaOy] at h;exact triv h.1 h.2.symm
   | agg cs=>simp [yaOy] at h;exact triv h.1 h.2.symm
   | tup cs=>simp [yaOy] at h
   | elp e t i off=>simp [yaOy] at h
   | cel cs off=>simp [yaOy] at h;exact triv h.1 h.2.symm
   | own e t =>
    simp only [yaOy] at h
    cases wr with
    | false=>simp at h;exact triv h.1 h.2.symm
    | true =>
     simp only [if_true] at h
     cases iv <;> (try simp only at h) <;> try (cases h;done)
     ·simp at h;exact triv h.1 h.2.symm
     ·rename_i e' xs
      split at h
      ·rename_i he
       subst he
       simp at h
       refine one t (.row e' xs) h.1.symm h.2.symm (by simp [occAV]) (fun q=>rfl) (fun kd hg=>?_) (fun γ' φ' look b1 b2 hn=>?_)
       ·simp only [RAV] at hv
        have:=(hv _ hg).2
        exact this.symm
       ·simp only [ROb]
        rw [b1,b2]
        simp only [RAV] at hv
        cases hg:S.look t with
        | none=>exact absurd hg hn
        | some o=>rw [← (hv o hg).1];exact hiv
      ·cases h
   | vw e t lo hi=>simp [yaOy] at h
   | mp t =>
    cases iv <;> simp only [yaOy] at h <;> try (cases h;done)
    rename_i k e m
    simp at h
    refine one t (.mp k e m) h.1.symm h.2.symm (by simp [occAV]) (fun q=>rfl) (fun kd hg=>?_) (fun γ' φ' look b1 b2 hn=>?_)
    ·simp only [RAV] at hv
     exact (hv _ hg).2.symm
    ·simp only [ROb]
     rw [b1,b2]
     simp only [RAV] at hv
     cases hg:S.look t with
     | none=>exact absurd hg hn
     | some o=>rw [← (hv o hg).1];exact hiv
   | fn f cs =>
    cases iv <;> simp only [yaOy] at h <;> try (cases h;done)
    rename_i f' xs
    split at h
    ·simp only [RAV] at hv
     obtain ⟨vs,rfl,hvs⟩:=hv
     simp only [RIV] at hiv
     obtain ⟨vs',he,hivs⟩:=hiv
     cases he
     exact ih.2 _ _ _ _ _ _ _ _ _ _ _ _ h hr hvs hivs hnd hown hfs hno (fun t ht=>hocc t (by simpa [occAV] using ht)) hu hy
    ·cases h
   | ptr t off =>
    cases off with
    | succ m=>simp [yaOy] at h
    | zero =>
     cases iv <;> simp only [yaOy] at h <;> try (cases h;done)
     ·simp at h;exact triv h.1 h.2.symm
     ·rename_i xs
      cases hc:yaLy n xs fs with
      | none=>simp [hc] at h
      | some p =>
       obtain ⟨cs,u',f'⟩:=p
       simp [hc] at h
       obtain ⟨rfl,rfl⟩:=h
       obtain ⟨hlt,hy1⟩:=hy (t,some (.box cs)) (by simp)
       obtain ⟨kd,hg⟩:=hy1.resolve_left (fun h=>hocc t (by simp [occAV]) h.1)
       simp only [RAV] at hv
       obtain ⟨⟨b,hgt,rfl⟩,hkd⟩:=hv _ hg
       simp only [RIV] at hiv
       obtain ⟨b',c,ty,F',he,rfl,hb,hvs⟩:=hiv
       simp only [Value.pointer.injEq,Option.some.injEq,Addr.mk.injEq,and_true] at he
       subst he
       have hnd':=List.nodup_cons.1 hnd
       obtain ⟨us0,c1,c2,c3,c4⟩:=(ycxy n).2 _ _ _ _ _ hc
       have hin:∀ y∈u',y.1∈fs:=fun y hy=>by rw [c1];simp [c4 y hy]
       obtain ⟨γ1,φ1,used,a1,a2,a3,a4,a5,a6,a7⟩:=(yeyy n).2 _ _ _ _ _ _ _ _ _ _ hc hr hvs hnd'.2 (hown.sub (by simp +contextual)) hfs hno (fun y hym=>by
        obtain ⟨h1,h2⟩:=hy y (by simp [hym])
        refine ⟨h1,?_⟩
        rcases h2 with h2 | ⟨kd,h2⟩
        ·exact h2.2
        ·rw [hno y.1 (hin y hym)] at h2;cases h2)
       have htu:t ∉ used:=fun hm=>hocc t (by simp [occAV]) (by rw [a1];simp [hm])
       have hg1:(S.upd u').look t = some (.gone kd):=(a4.out t htu).1.trans hg
       obtain ⟨γ',φ',b1,b2,b3⟩:=yuly (o:=.box cs) (F:=[b]) a2 hg1 (by rw [yb4y];exact hlt) hkd.symm (by simp)
        ((hown.sub (F:=[b]) (by simp)).only a4 (fun x hx hm=>by simp at hm;subst hm;exact hnd'.1 hx)) (fun γ' φ' h1 h2 h3=>by
         simp only [ROb]
         refine ⟨b,c,ty,by rw [h1,(a4.out t htu).2.1];exact hgt,h2,hb,?_⟩
         refine RAVs.mono (Pres.refl _ _) _ _ (fun q hq=>?_) a3
         have hne:q≠t:=fun e=>htu (e ▸ a5 q hq)
         exact yauy.same (h3 q hne).2 (h3 q hne).1)
       rw [ybey]
       refine ⟨γ',φ',used,[t],a1,b1,(a4.trans b2).mono (fun _ h=>h) (fun _ h=>h) (fun x hx=>by simp at hx ⊢;exact hx.symm),fun q hq=>?_,?_,by simp [occAV]⟩
       ·refine yauy.trans' (yauy.same (a4.out q (fun hm=>hq (by rw [a1];simp [hm]))).1 (a4.out q (fun hm=>hq (by rw [a1];simp [hm]))).2.1) (b3 q)
       ·intro y hy q hq
        rcases List.mem_append.1 hy with hy | hy
        ·exact a6 y hy q hq
        ·simp at hy;subst hy;exact a5 q (by simpa [occOb] using hq)
  ·cases vs with
   | nil =>
    cases ivs <;> simp only [ybay] at h <;> try (cases h;done)
    simp at h
    obtain ⟨rfl,rfl⟩:=h
    exact ⟨γ,φ,[],[],rfl,hr,Only.refl.mono (by simp) (by simp) (by simp),fun t _=>yauy.same rfl rfl,by simp,by simp⟩
   | cons v vs =>
    cases ivs with
    | nil=>simp [ybay] at h
    | cons iv ivs =>
     simp only [ybay] at h
     cases hc:yaOy (wr j) n v iv fs with
     | none=>simp [hc] at h
     | some p =>
      obtain ⟨u1,f1⟩:=p
      cases hc2:ybay wr (j + 1) n vs ivs f1 with
      | none=>simp [hc,hc2] at h
      | some q =>
       obtain ⟨u2,f2⟩:=q
       simp [hc,hc2] at h
       obtain ⟨rfl,rfl⟩:=h
       simp only [RIVs] at hiv
       obtain ⟨uv,uvs',F1,F2,rfl,rfl,hv1,hv2⟩:=hiv
       simp only [RAVs] at hv
       obtain ⟨uv',uvs'',he,hx1,hx2⟩:=hv
       cases he
       obtain ⟨hn1,hn2,hn3⟩:=nodup_append hnd
       rw [List.map_append] at hu
       obtain ⟨hu1,hu2,hu3⟩:=nodup_append hu
       obtain ⟨γ1,φ1,us1,rt1,a1,a2,a3,a4,a5,a6⟩:=ih.1 _ _ _ _ _ _ _ _ _ _ _ hc hr hx1 hv1 hn1 (hown.sub (by simp +contextual)) hfs hno (fun t ht=>hocc t (by simp [yady,ht])) hu1 (fun y hym=>hy y (by simp [hym]))
       have hfs0:=hfs
       rw [a1] at hfs0
       obtain ⟨hf1,hf2,hf3⟩:=nodup_append hfs0
       obtain ⟨tg1,tg2⟩:=(yCoy n).2 _ _ _ _ _ _ _ hc2
       obtain ⟨γ2,φ2,us2,rt2,b1,b2,b3,b4,b5,b6⟩:=ih.2 _ _ _ _ _ _ _ _ _ _ _ _ hc2 a2 (RAVs.mono (Pres.refl _ _) _ _ (fun t ht=>a4 t (hocc t (by simp [yady,ht]))) hx2) hv2 hn2
        ((hown.sub (by simp +contextual)).only a3 hn3) hf2
        (fun t ht=>(a3.out t (fun hm=>(List.mem_append.1 hm).elim (fun hm=>hf3 t hm ht) (fun hm=>hocc t (by simp [yady,(a6 t hm).2]) (by rw [a1];simp [ht])))).1.trans (hno t (by rw [a1];simp [ht])))
        (fun t ht hm=>hocc t (by simp [yady,ht]) (by rw [a1];simp [hm])) hu2 (fun y hym=>by
         obtain ⟨h1,h2⟩:=hy y (by simp [hym])
         refine ⟨by rw [yb4y];exact h1,?_⟩
         rcases tg1 y hym with hf | hf
         ·refine .inl ⟨hf,?_⟩
          have hff:y.1∈fs:=by rw [a1];simp [hf]
          have h3:occSt y.1 S = false:=by
           rcases h2 with h2 | ⟨kd,h2⟩
           ·exact h2.2
           ·rw [hno _ hff] at h2;cases h2
          cases hq':occSt y.1 (S.upd u1) with
          | false=>rfl
          | true =>
           rcases yfky hq' with hq' | ⟨z,hz,hq'⟩
           ·rw [h3] at hq';cases hq'
           ·exact absurd hf (hf3 _ (a5 z hz _ hq'))
         ·have hnf:y.1 ∉ fs:=hocc y.1 (by simp [yady,hf])
          obtain ⟨kd,h2⟩:=h2.resolve_left (fun h=>hnf h.1)
          refine .inr ⟨kd,(a3.out y.1 (fun hm=>?_)).1.trans h2⟩
          rcases List.mem_append.1 hm with hm | hm
          ·exact hnf (by rw [a1];simp [hm])
          ·obtain ⟨⟨z,hz,hzy⟩,_⟩:=a6 _ hm
           exact hu3 z.1 (List.mem_map.2 ⟨z,hz,rfl⟩) (by rw [hzy];exact List.mem_map.2 ⟨y,hym,rfl⟩))
       rw [ybey]
       refine ⟨γ2,φ2,us1++us2,rt1++rt2,by rw [a1,b1,List.append_assoc],b2,(a3.trans b3).mono ?_ ?_ (fun _ h=>h),?_,?_,?_⟩
       ·intro t ht;simp only [List.mem_append] at ht ⊢;rcases ht with (h | h) | (h | h) <;> simp [h]
       ·intro t ht;simp only [List.mem_append] at ht ⊢;rcases ht with (h | h) | (h | h) <;> simp [h]
       ·intro t ht
        exact (a4 t ht).trans' (b4 t (fun hm=>ht (by rw [a1];simp [hm])))
       ·intro y hy t ht
        exact List.mem_append.2 ((List.mem_append.1 hy).imp (fun h=>a5 y h t ht) (fun h=>b5 y h t ht))
       ·intro t ht
        rcases List.mem_append.1 ht with ht | ht
        ·obtain ⟨⟨y,h1,h2⟩,h3⟩:=a6 t ht
         exact ⟨⟨y,by simp [h1],h2⟩,by simp [yady,h3]⟩
        ·obtain ⟨⟨y,h1,h2⟩,h3⟩:=b6 t ht
         exact ⟨⟨y,by simp [h1],h2⟩,by simp [yady,h3]⟩
end Go.Am
set_option linter.unusedVariables false
set_option linter.unusedSimpArgs false
namespace Go.Am
open Go
variable {A:Nat→Type}
variable {T:Ty A} {w0 w w':World} {F0:List Nat} {X:Nat→Prop} {γ γ':Nat→Value} {φ φ':Nat→List Nat} {av av':Nat→Prop} {tmps:Array Value} {S S':St A} {R:Type} {P:Program}
theorem Rel.shrink (h:Rel T w0 F0 X γ φ av w tmps S) (hs:∀ b,av' b→av b) (ho:∀ b,(X b ∨ ∃ t o,S.look t = some o∧b∈φ t)→av' b):Rel T w0 F0 X γ φ av' w tmps S :=
 h.upd (fun _=>False) rfl (fun b o hb ho=>⟨ho,fun hx=>hb (hs b hx)⟩) (fun t _=>⟨rfl,rfl,rfl⟩) (fun _ _ _ _ _ _=>rfl) (fun t hf=>hf.elim) (fun t o hf=>hf.elim) (fun t o hf=>hf.elim)
  (fun t o t' o' hf=>hf.elim) ho (fun b hb=>h.avlt b (hs b hb)) (fun t o hf=>hf.elim) (Nat.le_refl _) h.left
theorem Rel.notX (h:Rel T w0 F0 X γ φ av w tmps S) {t:Nat} {o:Ob A} (ho:S.look t = some o) {b:Nat} (hb:b∈φ t):¬ X b:=by
 intro hx
 rcases (h.fp t o ho b hb).1 with h1 | h1
 ·exact (h.x b hx).2 h1
 ·exact absurd (h.x b hx).1 (Nat.not_lt.2 h1)
theorem ylmy {α:Type}:∀ (l:List α) (i:Nat) (a:α),l[i]? = some a→l.set i a = l
 | [],i,a,h=>by simp at h
 | x::xs,0,a,h=>by simp at h;simp [h]
 | x::xs,i + 1,a,h=>by simp at h;simp [ylmy xs i a h]
theorem yuny {t:Nat} {o:Ob A} (h:S.look t = some o):S.st[t]? = some (some o):=by
 unfold St.look at h
 cases hs:S.st[t]? with
 | none=>simp [hs] at h
 | some x=>simp [hs] at h;simp [h]
theorem Rel.shuts:∀ {lent:List Nat} {S:St A} {φ:Nat→List Nat} {av:Nat→Prop},Rel T w0 F0 X γ φ av w tmps S →
  (∀ t∈lent,∃ e,∃ xs:List (A e),S.look t = some (.row e xs) ∨ S.look t = some (.frz e xs)) →
  ∃ φ',Rel T w0 F0 X γ φ' (fun b=>av b∧∀ t∈lent,b ∉ φ t) w tmps (S.upd (lentU S.look lent))∧(∀ t,t ∉ lent→φ' t = φ t∧(S.upd (lentU S.look lent)).look t = S.look t)∧(∀ t∈lent,φ' t = []) ∧
   (∀ t,yauy S.look γ (S.upd (lentU S.look lent)).look γ t)
 | [],S,φ,av,h,hl=>⟨φ,h.shrink (fun b hb=>hb.1) (fun b hb=>⟨h.avs b hb,by simp⟩),fun t _=>⟨rfl,rfl⟩,by simp,fun t=>yauy.same rfl rfl⟩
 | t::r,S,φ,av,h,hl=>by
  obtain ⟨e,xs,ht⟩:=hl t (by simp)
  have step:∃ φ1 av1 S1,Rel T w0 F0 X γ φ1 av1 w tmps S1∧S.upd (lentU S.look (t::r)) = S1.upd (lentU S1.look r)∧(∀ b,av1 b→av b)∧(∀ b,av b→b ∉ φ t→av1 b)∧φ1 t = [] ∧
    (∀ u,u≠t→φ1 u = φ u∧S1.look u = S.look u)∧S1.look t = some (.frz e xs)∧yauy S.look γ S1.look γ t:=by
   rcases ht with ht | ht
   ·obtain ⟨φ1,av1,a1,a2,a3,a4,a5,a6⟩:=h.freeze ht
    have hlt:=ybgy ht
    have hlk:∀ u,St.look { S with st:=S.st.set t (some (.frz e xs)) } u = if u = t then some (.frz e xs) else S.look u:=by
     intro u;rw [yayy];by_cases hu:u = t <;> simp [hu,hlt]
    refine ⟨φ1,av1,_,a1,?_,a3,a6,?_,fun u hu=>⟨a5 u hu,by rw [hlk,if_neg hu]⟩,by rw [hlk,if_pos rfl],?_⟩
    ·simp only [lentU,List.map_cons,St.upd,ht]
     congr 1
     apply List.map_congr_left
     intro s hs
     by_cases hst:s = t
     ·subst hst;rw [hlk,if_pos rfl];simp [ht]
     ·rw [hlk,if_neg hst]
    ·have:=a1.ob t (.frz e xs) (by rw [hlk,if_pos rfl])
     simp only [ROb] at this
     exact this.1
    ·intro o' ho'
     rw [hlk,if_pos rfl] at ho';cases ho'
     exact ⟨_,ht,rfl,rfl⟩
   ·have hφ:φ t = []:=by
     have:=h.ob t _ ht
     simp only [ROb] at this
     exact this.1
    refine ⟨φ,av,S,h,?_,fun b hb=>hb,fun b hb _=>hb,hφ,fun u hu=>⟨rfl,rfl⟩,ht,yauy.same rfl rfl⟩
    simp only [lentU,List.map_cons,St.upd,ht]
    rw [ylmy _ _ _ (yuny ht)]
  obtain ⟨φ1,av1,S1,b1,b2,b3,b4,b5,b6,b7,b8⟩:=step
  have hl1:∀ s∈r,∃ e,∃ xs:List (A e),S1.look s = some (.row e xs) ∨ S1.look s = some (.frz e xs):=by
   intro s hs
   by_cases hst:s = t
   ·subst hst;exact ⟨e,xs,.inr b7⟩
   ·rw [(b6 s hst).2];exact hl s (by simp [hs])
  obtain ⟨φ2,c1,c2,c4,c3⟩:=Rel.shuts b1 hl1
  rw [b2]
  have hc:∀ u,yauy S.look γ S1.look γ u:=by
   intro u
   by_cases hu:u = t
   ·subst hu;exact b8
   ·exact yauy.same (b6 u hu).2 rfl
  have hφ1:∀ u,φ1 u = φ u ∨ φ1 u = []:=by
   intro u
   by_cases hu:u = t
   ·subst hu;exact .inr b5
   ·exact .inl (b6 u hu).1
  refine ⟨φ2,c1.shrink ?_ ?_,?_,?_,fun u=>(hc u).trans' (c3 u)⟩
  ·rintro b ⟨h1,h2⟩
   refine ⟨b4 b h1 (h2 t (by simp)),fun s hs hb=>?_⟩
   rcases hφ1 s with hp | hp
   ·rw [hp] at hb;exact h2 s (by simp [hs]) hb
   ·rw [hp] at hb;simp at hb
  ·rintro b hb
   have hb0:=c1.avs b hb
   refine ⟨b3 b hb0.1,fun s hs hbs=>?_⟩
   obtain ⟨e',xs',hs'⟩:=hl s hs
   have hsl:∃ o,S.look s = some o:=by rcases hs' with hs' | hs' <;> exact ⟨_,hs'⟩
   obtain ⟨so,hso⟩:=hsl
   rcases hb with hb | ⟨u,o,hu,hm⟩
   ·exact h.notX hso hbs hb
   ·-- what is owned behind was owned before,by another one
    have hus:∃ o0,S.look u = some o0:=by
     obtain ⟨o0,h0,_⟩:=(hc u).trans' (c3 u) o hu
     exact ⟨o0,h0⟩
    obtain ⟨o0,ho0⟩:=hus
    by_cases hur:u∈r
    ·rw [c4 u hur] at hm;simp at hm
    ·rw [(c2 u hur).1] at hm
     rcases hφ1 u with hp | hp
     ·rw [hp] at hm
      by_cases hus:u = s
      ·subst hus
       by_cases hut:u = t
       ·subst hut;rw [b5] at hp;rw [← hp] at hm;simp at hm
       ·exact absurd ((List.mem_cons.1 hs).resolve_left hut) hur
      ·exact h.disj u o0 s so ho0 hso hus b hm hbs
     ·rw [hp] at hm;simp at hm
  ·intro u hu
   rw [List.mem_cons,not_or] at hu
   exact ⟨(c2 u hu.2).1.trans (b6 u hu.1).1,(c2 u hu.2).2.trans (b6 u hu.1).2⟩
  ·intro u hu
   by_cases hur:u∈r
   ·exact c4 u hur
   ·rcases List.mem_cons.1 hu with rfl | hu
    ·rw [(c2 u hur).1];exact b5
    ·exact absurd hu hur
theorem ROb.one {look:Nat→Option (Ob A)} {t:Nat} {o:Ob A} (h:ROb T w av look γ φ t o):(γ t).oneCell' = true:=by
 cases o with
 | row e xs =>
  simp only [ROb,RIV] at h
  obtain ⟨ob,_,hs,_⟩:=h
  cases ob with
  | none=>simp only [OwnSl] at hs;rw [hs.2];rfl
  | some b=>simp only [OwnSl] at hs;obtain ⟨cap,c,ty,hv,_⟩:=hs;rw [hv];rfl
 | frz e xs=>simp only [ROb] at h;exact h.2.1.one
 | box cs=>simp only [ROb] at h;obtain ⟨b,c,ty,hv,_⟩:=h;rw [hv];rfl
 | mp k e m=>simp only [ROb,RIV] at h;obtain ⟨b,es,clock,hv,_⟩:=h;rw [hv];rfl
 | gone k=>simp only [ROb] at h;exact h.2
 | bld s=>simp only [ROb] at h;obtain ⟨tb,te,b,p,v,_,hv,_⟩:=h;rw [hv];rfl
theorem ym0y {look:Nat→Option (Ob A)}:∀ {ts:List Nat} {S:St A} (u:Nat),(∀ t∈ts,t < S.st.length) →
  (S.upd (goneU look ts)).look u = if u∈ts then (look u).map (fun o=>.gone o.kind) else S.look u
 | [],S,u,h=>by simp [goneU,St.upd]
 | t::r,S,u,h=>by
  have hcons:goneU look (t::r) = (t,(look t).map fun o=>.gone o.kind)::goneU look r:=rfl
  rw [hcons]
  simp only [St.upd]
  rw [ym0y u (by intro s hs;simpa using h s (by simp [hs]))]
  by_cases hu:u∈r
  ·simp [hu]
  ·rw [if_neg hu,yayy]
   by_cases hut:u = t
   ·subst hut;simp [h u (by simp)]
   ·simp [hut,hu]
theorem Rel.gone (h:Rel T w0 F0 X γ φ av w tmps S) {ts:List Nat} {look:Nat→Option (Ob A)} (hlk:∀ t∈ts,look t = S.look t) (hts:∀ t∈ts,(S.look t).isSome = true) (hl:Left T w w' (·∈ts.flatMap φ)) {G:List Nat}
  (hG:∀ b∈G,(b∈ts.flatMap φ ∨ w.heap.size≤b)∧b < w'.heap.size) :
  ∃ φ',Rel T w0 F0 X γ φ' (fun b=>(av b∧b ∉ ts.flatMap φ) ∨ b∈G) w' tmps (S.upd (goneU look ts))∧Own w0 F0 X φ' (fun b=>(av b∧b ∉ ts.flatMap φ) ∨ b∈G) w' (S.upd (goneU look ts)) G ∧
   (∀ t,yauy S.look γ (S.upd (goneU look ts)).look γ t)∧Pres w av w' (fun b=>(av b∧b ∉ ts.flatMap φ) ∨ b∈G):=by
 have hlt:∀ t∈ts,t < S.st.length:=fun t ht=>by obtain ⟨o,ho⟩:=Option.isSome_iff_exists.1 (hts t ht);exact ybgy ho
 have hlook:∀ u,(S.upd (goneU look ts)).look u = if u∈ts then (S.look u).map (fun o=>.gone o.kind) else S.look u:=by
  intro u
  rw [ym0y u hlt]
  by_cases hu:u∈ts
  ·simp [hu,hlk u hu]
  ·simp [hu]
 let φ':Nat→List Nat:=fun u=>if u∈ts then [] else φ u
 have hφn:∀ u,u ∉ ts→φ' u = φ u:=fun u hu=>by simp [φ',hu]
 have hφi:∀ u,u∈ts→φ' u = []:=fun u hu=>by simp [φ',hu]
 have hF:∀ b∈ts.flatMap φ,∃ t o,t∈ts∧S.look t = some o∧b∈φ t:=by
  intro b hb
  obtain ⟨t,ht,hbt⟩:=List.mem_flatMap.1 hb
  obtain ⟨o,ho⟩:=Option.isSome_iff_exists.1 (hts t ht)
  exact ⟨t,o,ht,ho,hbt⟩
 have hGnew:∀ b∈G,(b∈F0 ∨ w0.heap.size≤b)∧b < w'.heap.size:=by
  intro b hb
  obtain ⟨h1,h2⟩:=hG b hb
  refine ⟨?_,h2⟩
  rcases h1 with h1 | h1
  ·obtain ⟨t,o,_,ho,hbt⟩:=hF b h1
   exact (h.fp t o ho b hbt).1
  ·exact .inr (Nat.le_trans h.left.size h1)
 have hcompat:∀ t,yauy S.look γ (S.upd (goneU look ts)).look γ t:=by
  intro t o' ho'
  rw [hlook] at ho'
  by_cases ht:t∈ts
  ·rw [if_pos ht] at ho'
   cases hs:S.look t with
   | none=>simp [hs] at ho'
   | some o=>simp [hs] at ho';exact ⟨o,hs.symm ▸ rfl,rfl,by subst ho';rfl⟩
  ·rw [if_neg ht] at ho'
   exact ⟨o',ho',rfl,rfl⟩
 have hpres:Pres w av w' (fun b=>(av b∧b ∉ ts.flatMap φ) ∨ b∈G):=by
  intro b o hb ho
  have hlt:b < w.heap.size:=by
   rcases Nat.lt_or_ge b w.heap.size with h | h
   ·exact h
   ·simp [Array.getElem?_eq_none h] at ho
  have hnF:b ∉ ts.flatMap φ:=by
   intro hm
   obtain ⟨t,o',_,ho',hbt⟩:=hF b hm
   exact hb (h.av_of ho' hbt)
  refine ⟨by rw [hl.block b hlt hnF];exact ho,?_⟩
  rintro (hx | hx)
  ·exact hb hx.1
  ·rcases (hG b hx).1 with h1 | h1
   ·exact hnF h1
   ·exact absurd hlt (Nat.not_lt.2 h1)
 refine ⟨φ',h.upd (fun u=>u∈ts) (yf1y _ _) hpres ?_ ?_ (fun t _ _=>hcompat t) ?_ ?_ ?_ ?_ ?_ ?_ hl.size ?_,⟨fun b hb=>.inr hb,?_,?_,hGnew⟩,hcompat,hpres⟩
 ·intro t ht;exact ⟨by rw [hlook,if_neg ht],rfl,hφn t ht⟩
 ·intro t o ht ho b hb
  refine hl.block b (h.fp t o ho b hb).2 (fun hm=>?_)
  obtain ⟨t',o',ht',ho',hbt⟩:=hF b hm
  exact h.disj t o t' o' ho ho' (fun e=>ht (e ▸ ht')) b hb hbt
 ·intro t o ht ho
  rw [hlook,if_pos ht] at ho
  cases hs:S.look t with
  | none=>simp [hs] at ho
  | some o0 =>
   simp [hs] at ho;subst ho
   exact ⟨hφi t ht,(h.ob t o0 hs).one⟩
 ·intro t o ht _;rw [hφi t ht];simp
 ·intro t o t' o' ht _ _ _ b hb;rw [hφi t ht] at hb;simp at hb
 ·rintro b (hx | ⟨t,o,ho,hm⟩)
  ·refine .inl ⟨h.avs b (.inl hx),fun hb=>?_⟩
   obtain ⟨t,o,_,ho,hbt⟩:=hF b hb
   exact h.notX ho hbt hx
  ·by_cases ht:t∈ts
   ·rw [hφi t ht] at hm;simp at hm
   ·rw [hφn t ht] at hm
    rw [hlook,if_neg ht] at ho
    refine .inl ⟨h.av_of ho hm,fun hb=>?_⟩
    obtain ⟨t',o',ht',ho',hbt⟩:=hF b hb
    exact h.disj t o t' o' ho ho' (fun e=>ht (e ▸ ht')) b hm hbt
 ·rintro b (hb | hb)
  ·exact Nat.lt_of_lt_of_le (h.avlt b hb.1) hl.size
  ·exact (hG b hb).2
 ·intro t o ht _ b hb;rw [hφi t ht] at hb;simp at hb
 ·obtain ⟨a,b,c,d,e⟩:=h.left
  refine ⟨hl.os.trans a,b.trans hl.tape,hl.output.trans c,Nat.le_trans d hl.size,fun i hi hn=>?_⟩
  rw [hl.block i (Nat.lt_of_lt_of_le hi d) (fun hm=>?_)]
  ·exact e i hi hn
  ·obtain ⟨t,o,_,ho,hbt⟩:=hF i hm
   rcases (h.fp t o ho i hbt).1 with h1 | h1
   ·exact hn h1
   ·exact absurd hi (Nat.not_lt.2 h1)
 ·intro b hb hx
  rcases (hGnew b hb).1 with h1 | h1
  ·exact (h.x b hx).2 h1
  ·exact absurd (h.x b hx).1 (Nat.not_lt.2 h1)
 ·intro b hb t o ho hm
  by_cases ht:t∈ts
  ·rw [hφi t ht] at hm;simp at hm
  ·rw [hφn t ht] at hm
   rw [hlook,if_neg ht] at ho
   rcases (hG b hb).1 with h1 | h1
   ·obtain ⟨t',o',ht',ho',hbt⟩:=hF b h1
    exact h.disj t o t' o' ho ho' (fun e=>ht (e ▸ ht')) b hm hbt
   ·exact absurd (h.fp t o ho b hm).2 (Nat.not_lt.2 h1)
def yemy (T:Ty A) (flat:Nat→Bool):Prop:=∀ e,flat e = true→∀ (x:A e) d,d∈T.enc e x→D.plain d = true
theorem DR.plain {d:D A} {v:Value} (hp:d.plain = true) (h:DR T w av d v):DR T w' av' d v:=by
 obtain ⟨n,h⟩:=h
 refine ⟨n,?_⟩
 cases d with
 | sl e xs=>simp [D.plain] at hp
 | clo f e xs=>simp [D.plain] at hp
 | _=>cases n <;> simpa [DRep] using h
theorem yaNy.plain {flat:Nat→Bool} (hf:yemy T flat) {e:Nat} (he:flat e = true) {x:A e} {v:Value} (h:yaNy T w av e x v):yaNy T w av' e x v:=by
 obtain ⟨us,h1,h2,h3⟩:=h
 refine ⟨us,h1,h2,fun j d hj=>?_⟩
 obtain ⟨u,hu,hd⟩:=h3 j d hj
 exact ⟨u,hu,hd.plain (hf e he x d (List.mem_of_getElem? hj))⟩
theorem yaBy.plain {flat:Nat→Bool} (hf:yemy T flat) {k e:Nat} (hk:flat k = true) (he:flat e = true):∀ {es:List MapEntry} {m:List (A k×A e)},yaBy T w av k e es m→yaBy T w av' k e es m
 | [],[],_=>trivial
 | x::xs,p::ps,hm=>⟨hm.1.plain hf hk,hm.2.1.plain hf he,yaBy.plain hf hk he hm.2.2⟩
 | [],_::_,hm=>hm.elim
 | _::_,[],hm=>hm.elim
theorem IV.plain_mono {flat:Nat→Bool} (hf:yemy T flat):∀ n,
  (∀ (x:IV A) v F,IV.plain flat n x = true→RIV T w av x v F→RIV T w av' x v F)∧(∀ (xs:List (IV A)) vs F,IV.plains flat n xs = true→RIVs T w av xs vs F→RIVs T w av' xs vs F):=by
 intro n
 induction n with
 | zero=>exact ⟨fun x v F h=>by simp [IV.plain] at h,fun xs vs F h=>by simp [IV.plains] at h⟩
 | succ n ih =>
  refine ⟨fun x v F hp h=>?_,fun xs vs F hp h=>?_⟩
  ·cases x <;> simp only [IV.plain] at hp <;> simp only [RIV] at h ⊢
   case undef=>exact h
   case d x=>exact ⟨h.1,h.2.plain hp⟩
   case cel cs off=>cases hp
   case arr e xs =>
    obtain ⟨ob,h1,h2,h3⟩:=h
    refine ⟨ob,h1,h2,fun b hb=>?_⟩
    obtain ⟨c,ty,h4,h5⟩:=h3 b hb
    refine ⟨c,ty,h4,fun i x hi j d hj=>?_⟩
    obtain ⟨u,hu,hd⟩:=h5 i x hi j d hj
    exact ⟨u,hu,hd.plain (hf e hp x d (List.mem_of_getElem? hj))⟩
   case agg cs=>obtain ⟨vs,h1,h2⟩:=h;exact ⟨vs,h1,ih.2 _ _ _ hp h2⟩
   case tup cs=>obtain ⟨vs,h1,h2⟩:=h;exact ⟨vs,h1,ih.2 _ _ _ hp h2⟩
   case fn f cs=>obtain ⟨vs,h1,h2⟩:=h;exact ⟨vs,h1,ih.2 _ _ _ hp h2⟩
   case mp k e m =>
    rw [Bool.and_eq_true] at hp
    obtain ⟨b,es,clock,h1,h2,h3,h4⟩:=h
    exact ⟨b,es,clock,h1,h2,h3,h4.1.plain hf hp.1 hp.2,h4.2⟩
   case box cs=>obtain ⟨b,c,ty,F',h1,h2,h3,h4⟩:=h;exact ⟨b,c,ty,F',h1,h2,h3,ih.2 _ _ _ hp h4⟩
  ·cases xs with
   | nil=>simpa [RIVs] using h
   | cons x xs =>
    simp only [IV.plains,Bool.and_eq_true] at hp
    simp only [RIVs] at h ⊢
    obtain ⟨v,vs',F1,F2,h1,h2,h3,h4⟩:=h
    exact ⟨v,vs',F1,F2,h1,h2,ih.1 _ _ _ hp.1 h3,ih.2 _ _ _ hp.2 h4⟩
theorem RIVs.back:∀ {xs ys:List (IV A)} {vs:List Value} {F:List Nat},RIVs T w av ys vs F→∃ F',RIVs T w av (ycPy xs ys) vs F'∧F'.Sublist F
 | [],ys,vs,F,h=>⟨F,by simpa [ycPy] using h,.refl _⟩
 | x::xs,[],vs,F,h=>⟨F,by simpa [ycPy] using h,.refl _⟩
 | x::xs,y::ys,vs,F,h=>by
  simp only [RIVs] at h
  obtain ⟨v,vs',F1,F2,rfl,rfl,h1,h2⟩:=h
  obtain ⟨F2',h3,h4⟩:=RIVs.back (xs:=xs) h2
  have skip:RIVs T w av (.undef::ycPy xs ys) (v::vs') F2':=by
   simp only [RIVs]
   exact ⟨v,vs',[],F2',rfl,rfl,by simp [RIV],h3⟩
  have keep:RIVs T w av (y::ycPy xs ys) (v::vs') (F1++F2'):=by
   simp only [RIVs]
   exact ⟨v,vs',F1,F2',rfl,rfl,h1,h3⟩
  have hsub:F2'.Sublist (F1++F2):=h4.trans (List.sublist_append_right _ _)
  have hsub2:(F1++F2').Sublist (F1++F2):=List.Sublist.append_left h4 _
  cases x <;> simp only [ycPy] <;> first | exact ⟨_,skip,hsub⟩ | exact ⟨_,keep,hsub2⟩
end Go.Am
