/- Part of an abstract machine for this program, with its soundness: AmBody. No condition: lemmas for the claim. -/
import Derived.Test.YtoajjnhmofegcaaGreatDoorAmRun
set_option linter.unusedVariables false
set_option linter.unusedSimpArgs false
namespace Go.Am
open Go
variable {A:Nat→Type} {R:Type} {P:Program}
variable {T:Ty A} {w0 w w':World} {F0:List Nat} {X:Nat→Prop} {γ γ':Nat→Value} {φ φ':Nat→List Nat} {av av':Nat→Prop} {tmps:Array Value} {S S':St A} {res:R}
def ymsy (tmps:Array Value):ResultVar→Sem Value
 | .tmp t=>pure (tmps.getD t undef)
 | .cell a t=>do loadVar t (← asAddr (tmps.getD a undef))
theorem ymdy (h:Rel T w0 F0 X γ φ av w tmps S):∀ {rs:List ResultVar} {vs:List (AV A)},yily P S rs = some vs→∃ us,(rs.mapM (ymsy tmps)).run P w = .ok us w∧RAVs T w av S.look γ vs us
 | [],vs,hr=>by simp only [yily] at hr;cases hr;exact ⟨[],by simp,by simp [RAVs]⟩
 | r::rs,vs,hr=>by
  simp only [yily] at hr
  cases h1:resAV P S r with
  | none=>simp [h1] at hr
  | some v =>
   cases h2:yily P S rs with
   | none=>simp [h1,h2] at hr
   | some vs' =>
    simp [h1,h2] at hr
    subst hr
    obtain ⟨us,h3,h4⟩:=ymdy h h2
    have hone:∃ u,(ymsy tmps r).run P w = .ok u w∧RAV T w av S.look γ v u:=by
     cases r with
     | tmp t =>
      simp only [resAV] at h1
      have:=h.get t
      rw [h1] at this
      exact ⟨tmps.getD t undef,rfl,this⟩
     | cell a t =>
      simp only [resAV] at h1
      have hg:=h.get a
      generalize (S.fr[a]?).getD .undef = va at h1 hg
      cases va <;> (try simp only at h1) <;> try (cases h1;done)
      rename_i tg off
      cases hl:S.look tg with
      | none=>simp [hl] at h1
      | some ob =>
       rw [hl] at h1
       cases ob <;> (try simp only at h1) <;> try (cases h1;done)
       rename_i cs
       simp only [RAV] at hg
       obtain ⟨⟨b,hb,hv⟩,_⟩:=hg _ hl
       have hob:=h.ob tg _ hl
       simp only [ROb] at hob
       obtain ⟨b',c,ty,hb',_,hc,hcs⟩:=hob
       have hbb:b' = b:=by rw [hb] at hb';simpa using hb'.symm
       subst hbb
       obtain ⟨u,hu,hru⟩:=yoHy (P:=P) h1 hc hcs
       refine ⟨u,?_,hru⟩
       simp only [ymsy]
       rw [hv]
       simpa [asAddr] using hu
    obtain ⟨u,h5,h6⟩:=hone
    refine ⟨u::us,by simp [h5,h3],?_⟩
    simp only [RAVs]
    exact ⟨u,us,rfl,h6,h4⟩
theorem ywVy {fn:Func} {us:List Value} (h:(fn.results.toList.mapM (ymsy tmps)).run P w = .ok us w):(results fn tmps).run P w = .ok (if h:us.toArray.size = 1 then us.toArray[0] else .tuple us.toArray) w:=by
 have h1:results fn tmps = (do let vs ← fn.results.mapM (ymsy tmps);pure (if h:vs.size = 1 then vs[0] else .tuple vs)):=by
  unfold results
  congr 1
 rw [h1,Array.mapM_eq_mapM_toList]
 simp [h]
theorem ycty (h:Rel T w0 F0 X γ φ av w tmps S) {av2:Nat→Prop} (hsub:∀ b,av2 b→av b):∀ {vs:List (AV A)} {sh:List Shape} {us:List Value} {xs:List (IV A)} {ts fz:List Nat},RAVs T w av S.look γ vs us→ycYy S.look sh vs = some (xs,ts,fz) →
  (∀ t∈fz,∀ b∈φ t,¬ av2 b)→RIVs T w av2 xs us (ts.flatMap φ)∧(∀ t∈ts,(S.look t).isSome = true)
 | [],sh,us,xs,ts,fz,hv,hh,hno=>by
  simp only [ycYy] at hh
  cases hh
  simp only [RAVs] at hv
  subst hv
  exact ⟨by simp [RIVs],by simp⟩
 | v::vs,sh,us,xs,ts,fz,hv,hh,hno=>by
  simp only [RAVs] at hv
  obtain ⟨u,us',rfl,h1,h2⟩:=hv
  have hp:Pres w av w av2:=fun b o hb ho=>⟨ho,fun hx=>hb (hsub b hx)⟩
  simp only [ycYy] at hh
  cases hr:ycYy S.look sh.tail vs with
  | none=>simp [hr] at hh
  | some q =>
   obtain ⟨xs',ts',fz'⟩:=q
   simp only [hr,Option.bind_some] at hh
   have gen:((hand S.look 64 v).bind fun x=>some (x.1::xs',x.2++ts',fz')) = some (xs,ts,fz)→RIVs T w av2 xs (u::us') (ts.flatMap φ)∧(∀ t∈ts,(S.look t).isSome = true):=by
    intro hh
    cases hd:hand S.look 64 v with
    | none=>simp [hd] at hh
    | some p =>
     obtain ⟨iv,t1⟩:=p
     simp only [hd,Option.bind_some,Option.some.injEq,Prod.mk.injEq] at hh
     obtain ⟨rfl,rfl,rfl⟩:=hh
     obtain ⟨a1,a2⟩:=ycty h hsub h2 hr hno
     obtain ⟨b1,b2⟩:=(yk1y h 64).1 _ _ _ _ h1 hd
     refine ⟨?_,fun t ht=>(List.mem_append.1 ht).elim (b2 t) (a2 t)⟩
     simp only [RIVs]
     exact ⟨u,us',t1.flatMap φ,ts'.flatMap φ,rfl,by simp,RIV.mono hp _ _ _ (fun _ _=>rfl) b1,a1⟩
   have data:∀ x:D A,(.d x::xs',ts',fz') = (xs,ts,fz)→DR T w av2 x u→RIVs T w av2 xs (u::us') (ts.flatMap φ)∧(∀ t∈ts,(S.look t).isSome = true):=by
    intro x he hx
    simp only [Prod.mk.injEq] at he
    obtain ⟨rfl,rfl,rfl⟩:=he
    obtain ⟨a1,a2⟩:=ycty h hsub h2 hr hno
    refine ⟨?_,a2⟩
    simp only [RIVs]
    exact ⟨u,us',[],ts'.flatMap φ,rfl,rfl,by simp only [RIV,true_and];exact hx,a1⟩
   generalize sh.headD .asis = s0 at hh
   cases s0 with
   | asis=>cases v <;> exact gen hh
   | arr e0 =>
    cases v with
    | d y =>
     cases y with
     | nsl =>
      simp only [Option.some.injEq,Prod.mk.injEq] at hh
      obtain ⟨rfl,rfl,rfl⟩:=hh
      obtain ⟨a1,a2⟩:=ycty h hsub h2 hr hno
      refine ⟨?_,a2⟩
      simp only [RAV,DR.nsl] at h1
      simp only [RIVs]
      exact ⟨u,us',[],ts'.flatMap φ,rfl,rfl,by simp only [RIV];exact ⟨none,rfl,by simp [OwnSl,h1],by simp⟩,a1⟩
     | _=>exact gen hh
    | _=>exact gen hh
   | frz e0 =>
    cases v with
    | d y =>
     cases y with
     | nsl =>
      simp only [RAV,DR.nsl] at h1
      refine data (.sl e0 []) (Option.some.inj hh) ?_
      rw [h1]
      exact DR.of_row (.inl rfl) (Nat.zero_le _) (fun hne=>absurd rfl hne)
     | _=>exact gen hh
    | own e t =>
     simp only at hh
     cases hl:S.look t with
     | none=>simp [hl] at hh
     | some ob =>
      rw [hl] at hh
      simp only [RAV] at h1
      cases ob <;> (try simp only at hh) <;> try (cases hh;done)
      all_goals
       simp only [Option.some.injEq,Prod.mk.injEq] at hh
       obtain ⟨rfl,rfl,rfl⟩:=hh
       obtain ⟨a1,a2⟩:=ycty h hsub h2 hr (fun t ht=>hno t (by simp [ht]))
       refine ⟨?_,a2⟩
       simp only [RIVs]
       refine ⟨u,us',[],ts'.flatMap φ,rfl,rfl,?_,a1⟩
       simp only [RIV,true_and]
       rw [(h1 _ hl).1]
       exact h.lend (by first | exact .inl hl | exact .inr hl) hsub (hno t (by simp))
    | _=>exact gen hh
theorem ygny (h:Rel T w0 F0 X γ φ av w tmps S) {av2:Nat→Prop} (hsub:∀ b,av2 b→av b) {pin:List Nat} {us:Array Value} (hpin:∀ i∈pin,tmps[i]? = us[i]?):∀ (n i:Nat) {ys:List (IV A)} {ts:List Nat},i + n = us.size→yeOy S.look pin S.fr i n = some (ys,ts) →
  RIVs T w av2 ys (us.toList.drop i) (ts.flatMap φ)∧(∀ t∈ts,(S.look t).isSome = true)
 | 0,i,ys,ts,hn,hh=>by
  simp only [yeOy] at hh
  cases hh
  have:us.toList.drop i = []:=List.drop_eq_nil_of_le (by simp;omega)
  rw [this]
  exact ⟨by simp [RIVs],by simp⟩
 | n + 1,i,ys,ts,hn,hh=>by
  simp only [yeOy] at hh
  have hp:Pres w av w av2:=fun b o hb ho=>⟨ho,fun hx=>hb (hsub b hx)⟩
  have hlt:i < us.size:=by omega
  have hdrop:us.toList.drop i = us[i]::us.toList.drop (i + 1):=by
   rw [List.drop_eq_getElem_cons (by simpa using hlt)]
   simp
  cases hr:yeOy S.look pin S.fr (i + 1) n with
  | none=>simp [hr] at hh
  | some q =>
   obtain ⟨xs,ts'⟩:=q
   simp only [hr,Option.bind_some] at hh
   obtain ⟨a1,a2⟩:=ygny h hsub hpin n (i + 1) (by omega) hr
   have und:(IV.undef::xs,ts') = (ys,ts)→RIVs T w av2 ys (us.toList.drop i) (ts.flatMap φ)∧(∀ t∈ts,(S.look t).isSome = true):=by
    intro he
    simp only [Prod.mk.injEq] at he
    obtain ⟨rfl,rfl⟩:=he
    refine ⟨?_,a2⟩
    rw [hdrop]
    simp only [RIVs]
    exact ⟨us[i],_,[],ts'.flatMap φ,rfl,rfl,by simp [RIV],a1⟩
   cases hpc:pin.contains i with
   | false=>simp only [hpc] at hh;exact und (Option.some.inj hh)
   | true =>
    simp only [hpc] at hh
    have hval:tmps.getD i undef = us[i]:=by
     have:=hpin i (by simpa using hpc)
     simp [hlt] at this
     simp [this]
    have hg:=h.get i
    rw [hval] at hg
    generalize (S.fr[i]?).getD .undef = v at hh hg
    have gen:∀ iv t1,hand S.look 64 v = some (iv,t1)→(iv::xs,t1++ts') = (ys,ts)→RIVs T w av2 ys (us.toList.drop i) (ts.flatMap φ)∧(∀ t∈ts,(S.look t).isSome = true):=by
     intro iv t1 hd he
     simp only [Prod.mk.injEq] at he
     obtain ⟨rfl,rfl⟩:=he
     obtain ⟨b1,b2⟩:=(yk1y h 64).1 _ _ _ _ hg hd
     refine ⟨?_,fun t ht=>(List.mem_append.1 ht).elim (b2 t) (a2 t)⟩
     rw [hdrop]
     simp only [RIVs]
     exact ⟨us[i],_,t1.flatMap φ,ts'.flatMap φ,rfl,by simp,RIV.mono hp _ _ _ (fun _ _=>rfl) b1,a1⟩
    have gen':((hand S.look 64 v).bind fun x=>some (x.1::xs,x.2++ts')) = some (ys,ts)→RIVs T w av2 ys (us.toList.drop i) (ts.flatMap φ)∧(∀ t∈ts,(S.look t).isSome = true):=by
     intro hh
     cases hd:hand S.look 64 v with
     | none=>simp [hd] at hh
     | some p=>simp only [hd,Option.bind_some] at hh;exact gen p.1 p.2 hd (Option.some.inj hh)
    cases v with
    | d y=>exact und (Option.some.inj hh)
    | own e t =>
     simp only at hh
     cases hl:S.look t with
     | none=>simp only [hl] at hh;exact und (Option.some.inj hh)
     | some ob =>
      simp only [hl] at hh
      cases ob with
      | row e' zs =>
       simp only at hh
       split at hh
       ·rename_i he
        subst he
        refine gen (.arr e' zs) [t] ?_ (by simpa using hh)
        simp only [hand,hl,if_true]
       ·cases hh
      | _=>exact und (Option.some.inj hh)
    | _=>exact gen' hh
theorem yc0y (E:Env A) {us:Array Value} {sh:List Shape} {fn:Func} {k:IV A→List (IV A)→Option R} {F:List Nat} (h:Rels E w F (fun b=>av b∧b ∉ F) us w' tmps S)
  (hk:yejy E sh fn.results.toList us.size S k = some res):∃ v,(results fn tmps).run E.P w' = .ok v w' ∧
   ∃ r args' F1 F2 av',k r args' = some res∧RIV E.T w' av' r v F1∧RIVs E.T w' av' args' us.toList F2∧(F1++F2).Nodup ∧
   (∀ b,(av b∧b ∉ F) ∨ b∈F1++F2→av' b)∧(∀ b∈F1++F2,(b∈F ∨ w.heap.size≤b)∧b < w'.heap.size)∧Left E.T w w' (·∈F):=by
 obtain ⟨⟨γ,φ,av1,h⟩,hpin⟩:=h
 unfold yejy at hk
 cases hrs:yily E.P S fn.results.toList with
 | none=>simp [hrs] at hk
 | some vs =>
  simp only [hrs] at hk
  cases hh:ycYy S.look sh vs with
  | none=>simp [hh] at hk
  | some q =>
   obtain ⟨xs,ts,fz⟩:=q
   cases hp:yeOy S.look E.pin S.fr 0 us.size with
   | none=>simp [hh,hp] at hk
   | some q =>
    obtain ⟨ys,as⟩:=q
    simp only [hh,hp] at hk
    split at hk
    ·rename_i hc
     simp only [Bool.and_eq_true,List.all_eq_true,Bool.not_eq_true',List.contains_eq_mem,decide_eq_false_iff_not] at hc
     obtain ⟨hn,hfz⟩:=hc
     have hn:=ybYy hn
     obtain ⟨rus,h1,h2⟩:=ymdy (P:=E.P) h hrs
     refine ⟨_,ywVy h1,?_⟩
     let av':Nat→Prop:=fun b=>(av b∧b ∉ F) ∨ b∈ts.flatMap φ++as.flatMap φ
     have hlive0:∀ t∈ts++as,(S.look t).isSome = true:=by
      have a1:=(ycty h (av2:=fun _=>False) (fun b hb=>hb.elim) h2 hh (fun _ _ _ _ h=>h)).2
      have a2:=(ygny h (av2:=fun _=>False) (fun b hb=>hb.elim) hpin us.size 0 (by simp) hp).2
      intro t ht
      exact (List.mem_append.1 ht).elim (a1 t) (a2 t)
     have hown:∀ b∈ts.flatMap φ++as.flatMap φ,∃ t o,t∈ts++as∧S.look t = some o∧b∈φ t:=by
      intro b hb
      rw [← List.flatMap_append] at hb
      obtain ⟨t,ht,hbt⟩:=List.mem_flatMap.1 hb
      obtain ⟨o,ho⟩:=Option.isSome_iff_exists.1 (hlive0 t ht)
      exact ⟨t,o,ht,ho,hbt⟩
     have hsub:∀ b,av' b→av1 b:=by
      rintro b (hb | hb)
      ·exact h.avs b (.inl hb)
      ·obtain ⟨t,o,_,ho,hbt⟩:=hown b hb
       exact h.av_of ho hbt
     have hno:∀ t∈fz,∀ b∈φ t,¬ av' b:=by
      intro t ht b hb hx
      have htn:=hfz t ht
      cases hl:S.look t with
      | none =>
       exfalso
       have key:∀ (sh:List Shape) (vs:List (AV A)) (xs:List (IV A)) (ts fz:List Nat),ycYy S.look sh vs = some (xs,ts,fz)→∀ t∈fz,S.look t≠none:=by
        intro sh vs
        induction vs generalizing sh with
        | nil=>intro xs ts fz hh;simp only [ycYy] at hh;cases hh;simp
        | cons v vs ih =>
         intro xs ts fz hh
         simp only [ycYy] at hh
         cases hr:ycYy S.look sh.tail vs with
         | none=>simp [hr] at hh
         | some q =>
          obtain ⟨xs',ts',fz'⟩:=q
          simp only [hr,Option.bind_some] at hh
          have ih':=ih _ _ _ _ hr
          have gen:((hand S.look 64 v).bind fun x=>some (x.1::xs',x.2++ts',fz')) = some (xs,ts,fz)→∀ t∈fz,S.look t≠none:=by
           intro hh
           cases hd:hand S.look 64 v with
           | none=>simp [hd] at hh
           | some p=>simp only [hd,Option.bind_some,Option.some.injEq,Prod.mk.injEq] at hh;rw [← hh.2.2];exact ih'
          generalize sh.headD .asis = s0 at hh
          cases s0 with
          | asis=>cases v <;> exact gen hh
          | arr e0 =>
           cases v with
           | d y =>
            cases y with
            | nsl=>simp only [Option.some.injEq,Prod.mk.injEq] at hh;rw [← hh.2.2];exact ih'
            | _=>exact gen hh
           | _=>exact gen hh
          | frz e0 =>
           cases v with
           | d y =>
            cases y with
            | nsl=>simp only [Option.some.injEq,Prod.mk.injEq] at hh;rw [← hh.2.2];exact ih'
            | _=>exact gen hh
           | own e t =>
            simp only at hh
            cases hl':S.look t with
            | none=>simp [hl'] at hh
            | some ob =>
             rw [hl'] at hh
             cases ob <;> (try simp only at hh) <;> try (cases hh;done)
             all_goals
              simp only [Option.some.injEq,Prod.mk.injEq] at hh
              rw [← hh.2.2]
              intro s hs
              rcases List.mem_cons.1 hs with rfl | hs
              ·rw [hl'];simp
              ·exact ih' s hs
           | _=>exact gen hh
       exact key _ _ _ _ _ hh t ht hl
      | some o =>
       rcases hx with hx | hx
       ·exact h.notX hl hb hx
       ·obtain ⟨t',o',ht',ho',hbt⟩:=hown b hx
        exact h.disj t o t' o' hl ho' (fun e=>htn (e ▸ ht')) b hb hbt
     obtain ⟨a1,a2⟩:=ycty h hsub h2 hh hno
     obtain ⟨b1,b2⟩:=ygny h hsub hpin us.size 0 (by simp) hp
     refine ⟨_,ys,ts.flatMap φ,as.flatMap φ,av',hk,?_,by simpa using b1,?_,fun b hb=>hb,?_,h.left⟩
     ·-- the result
      cases xs with
      | nil =>
       simp only [RIVs] at a1
       obtain ⟨rfl,ha⟩:=a1
       simp [RIV,RIVs,ha]
      | cons x xs =>
       cases xs with
       | nil =>
        simp only [RIVs] at a1
        obtain ⟨v,vs',G1,G2,rfl,hG,h5,rfl,rfl⟩:=a1
        rw [hG]
        simpa using h5
       | cons y ys =>
        have hlen:rus.length≠1:=by
         simp only [RIVs] at a1
         obtain ⟨v,vs',G1,G2,rfl,hG,h5,v2,vs2,G3,G4,rfl,_⟩:=a1
         simp
        simp only [RIV]
        exact ⟨rus.toArray,by simp [hlen],by simpa using a1⟩
     ·rw [← List.flatMap_append];exact ylfy h hn hlive0
     ·intro b hb
      obtain ⟨t,o,_,ho,hbt⟩:=hown b hb
      exact h.fp t o ho b hbt
    ·cases hk
theorem yxoy (E:Env A) (hE:EnvOk E) (hC:yahy E.C) (hm:E.P.follows .mixedOrders = true) {f:Nat} {fn:Func} {code:Code} (hf:E.P.funcs[f]? = some fn) (hb:fn.body = some code)
  (nst:Nat) (argTags:List Nat) (sh:List Shape) (n:Nat) (hcut:yasy E n code):yany E.P E.T f (abody E fn code nst argTags sh n):=by
 intro args R k res hk w vs F av hargs hnd hav hlt hamb
 unfold abody at hk
 cases hp:yaLy 64 args argTags with
 | none=>simp [hp] at hk
 | some q =>
  obtain ⟨xs,u,fs⟩:=q
  simp only [hp] at hk
  cases hc:ycky argTags&&(argTags.all (fun t=>decide (t < nst))&&E.pin.all (fun i=>decide (i < xs.length))) with
  | false=>simp [hc] at hk
  | true =>
   simp only [hc,cond_true] at hk
   simp only [Bool.and_eq_true,List.all_eq_true,decide_eq_true_eq] at hc
   obtain ⟨hc1,hc2,hc3⟩:=hc
   have hc1:=ybYy hc1
   let S0:St A:={ fr:=[],st:=List.replicate nst none }
   have hl0:∀ t,S0.look t = none:=by
    intro t
    simp only [S0,St.look,List.getElem?_replicate]
    split <;> rfl
   have h0:Rel E.T w F (fun b=>av b∧b ∉ F) (fun _=>undef) (fun _=>[]) av w #[] S0:=by
    refine ⟨by simp [S0,RAVs],?_,?_,?_,?_,hlt,?_,fun b hb=>⟨hlt b hb.1,hb.2⟩,⟨rfl,⟨rfl,fun _=>Nat.le_refl _⟩,rfl,Nat.le_refl _,fun _ _ _=>rfl⟩,hamb⟩
    ·intro t o ho;rw [hl0] at ho;cases ho
    ·intro t o ho;rw [hl0] at ho;cases ho
    ·intro t o t' o' ho;rw [hl0] at ho;cases ho
    ·rintro b (hb | ⟨t,o,ho,_⟩)
     ·exact hb.1
     ·rw [hl0] at ho;cases ho
    ·intro t o ho;rw [hl0] at ho;cases ho
   have hocc0:∀ t,occSt t S0 = false:=by
    intro t
    unfold occSt
    simp only [S0,yady,Bool.false_or]
    induction nst with
    | zero=>rfl
    | succ m ih=>simp [occOb]
   obtain ⟨us0,g1,g2,g3,g4⟩:=(ycxy 64).2 _ _ _ _ _ hp
   obtain ⟨γ1,φ1,used,a1,a2,a3,a4,a5,a6,a7⟩:=(yeyy 64).2 _ _ _ _ _ _ _ S0 _ _ hp h0 hargs hnd
    ⟨hav,fun b hb hx=>hx.2 hb,fun b hb t o ho=>(by rw [hl0] at ho;cases ho),fun b hb=>⟨.inl hb,hlt b (hav b hb)⟩⟩ hc1 (fun t _=>hl0 t)
    (fun y hy=>⟨by simpa [S0] using hc2 y.1 (by rw [g1];simp [g4 y hy]),hocc0 _⟩)
   refine calls_of_wp hf hb (yi8y E hE hC hm (w0:=w) (F0:=F) (X:=fun b=>av b∧b ∉ F) (us:=vs.toArray) n code hcut _ _ _ w _ hk ⟨⟨γ1,φ1,av,?_⟩,?_⟩ (fun e S' tmps' w' h1 h2=>?_))
   ·-- the slots
    have hst:St.upd { fr:=xs++List.replicate (fn.ntmps - xs.length) .undef,st:=List.replicate nst none } u = { fr:=xs++List.replicate (fn.ntmps - xs.length) .undef,st:=(S0.upd u).st }:=by
     have key:∀ (u:Upd A) (fr fr':List (AV A)) (st:List (Option (Ob A))),St.upd { fr:=fr,st:=st } u = { fr:=fr,st:=(St.upd { fr:=fr',st:=st } u).st }:=by
      intro u
      induction u with
      | nil=>intro fr fr' st;rfl
      | cons x r ih=>intro fr fr' st;exact ih fr fr' _
     exact key u _ [] _
    rw [hst]
    refine ⟨?_,a2.ob,a2.nd,a2.disj,a2.avs,a2.avlt,a2.fp,a2.x,a2.left,a2.amb⟩
    have hrep:∀ m,RAVs E.T w av (S0.upd u).look γ1 (List.replicate m .undef) (List.replicate m undef):=by
     intro m
     induction m with
     | zero=>simp [RAVs]
     | succ m ih=>simp only [List.replicate_succ,RAVs];exact ⟨_,_,rfl,trivial,ih⟩
    have:=a3.append (hrep (fn.ntmps - xs.length))
    rw [a3.len.symm] at this ⊢
    have htl:(vs.toArray++Array.replicate (fn.ntmps - vs.toArray.size) undef).toList = vs++List.replicate (fn.ntmps - vs.length) undef:=by simp
    show RAVs E.T w av (S0.upd u).look γ1 _ _
    rw [htl]
    exact this
   ·intro i hi
    have hlt':i < vs.length:=by rw [a3.len];exact hc3 i hi
    simp [Array.getElem?_append,hlt']
   ·have hlen:xs.length = vs.toArray.size:=by simpa using a3.len.symm
    cases e with
    | normal =>
     simp only [hlen] at h1
     obtain ⟨v,h3,r,args',F1,F2,av',h4,h5,h6,h7,h8,h9,h10⟩:=yc0y E h2 h1
     exact ⟨rfl,v,h3,r,args',v,F1,F2,av',h4,rfl,h5,by simpa using h6,h7,h8,h9,h10⟩
    | ret =>
     simp only [hlen] at h1
     obtain ⟨v,h3,r,args',F1,F2,av',h4,h5,h6,h7,h8,h9,h10⟩:=yc0y E h2 h1
     exact ⟨rfl,v,h3,r,args',v,F1,F2,av',h4,rfl,h5,by simpa using h6,h7,h8,h9,h10⟩
    | exit i=>cases h1
end Go.Am
