/- Part of an abstract machine for this program, with its soundness: AmOp. No condition: lemmas for the claim. -/
import Derived.Test.YtoajjnhmofegcaaGreatDoorAmCall6
import Derived.Test.YtoajjnhmofegcaaGreatDoorAmOps7
import Derived.Orders
set_option linter.unusedVariables false
set_option linter.unusedSimpArgs false
namespace Go.Am
open Go
variable {A:Nat→Type}
variable {T:Ty A} {w0 w w':World} {F0:List Nat} {X:Nat→Prop} {γ γ':Nat→Value} {φ φ':Nat→List Nat} {av av':Nat→Prop} {tmps:Array Value} {S S':St A} {R:Type} {P:Program}
variable {k:AV A→Upd A→List Nat→Option R} {res:R}
structure EnvOk (E:Env A):Prop where
 ty:TyOk E.P E.T
 tab:ylhy E.P E.T E.C
 flat:yemy E.T E.flat
 keys:∀ k,E.keyed k = true→KeyOk E.P E.T k∧∃ kd,E.P.underlying k = some kd
 sp:∀ f s,E.sp f = some s→SpOk E.P E.T f s
def Ran (E:Env A) (w0:World) (F0:List Nat) (X:Nat→Prop) (tmps:Array Value) (S:St A) (k:AV A→Upd A→List Nat→Option R) (res:R) (w:World) (r:Result Next):Prop :=
 Did E.T w0 F0 X tmps S k res r ∨ ∃ f us,r = .ok (.enter f us) w∧Calls E.P f us w (fun e w'=>∃ v,e = .returned v∧After E.T w0 F0 X tmps S k res v w')
theorem yDby (E:Env A) (hok:TyOk E.P E.T) (h:Rel E.T w0 F0 X γ φ av w tmps S) {o:Oper} {t:TypeId} {a x:Operand} {ds:List Deferred} (ho:o.op = .store t a x)
  (hk:opK E S.look (yafy S.fr) k o = some res):Did E.T w0 F0 X tmps S k res ((execOp (Act.eval ⟨tmps,ds⟩) o).run E.P w):=by
 have ha:=h.eval ds a
 have hx:=h.eval ds x
 have hocc:∀ u,occAV u (yafy S.fr x) = true→occSt u S = true:=fun u hu=>ylsy hu
 unfold opK at hk
 simp only [ho] at hk
 generalize yafy S.fr a = va at hk ha
 generalize yafy S.fr x = vx at hk hx hocc
 split at hk
 ·rename_i hc
  obtain ⟨hn,h1,hi⟩:=hc
  cases va <;> (try simp only at hk) <;> try (cases hk;done)
  case ptr tg off =>
   cases hl:S.look tg with
   | none=>simp [hl] at hk
   | some ob =>
    rw [hl] at hk
    cases ob <;> (try simp only at hk) <;> try (cases hk;done)
    rename_i cs
    split at hk
    ·rename_i hle
     obtain ⟨w',γ',φ',h2,h3⟩:=yuay h hx hocc hn h1 hi hl hle ha
     refine ⟨undef,w',.inr ⟨?_,rfl⟩,.undef,_,_,γ',φ',av,hk,h3,trivial⟩
     simp [execOp,ho,h2]
    ·cases hk
  case elp e tg i off =>
   cases hl:S.look tg with
   | none=>simp [hl] at hk
   | some ob =>
    cases hds:toDs S.look vx.cells with
    | none=>rw [hl,hds] at hk;cases ob <;> simp at hk
    | some p =>
     obtain ⟨ds',u,ts⟩:=p
     rw [hl,hds] at hk
     cases ob <;> (try simp only at hk) <;> try (cases hk;done)
     rename_i e' xs
     split at hk
     ·rename_i hc
      obtain ⟨rfl,htg⟩:=hc
      cases hy:xs[i]? with
      | none=>simp [hy] at hk
      | some y =>
       rw [hy] at hk
       simp only at hk
       split at hk
       ·rename_i hoff
        cases hdec:E.T.dec e' (Am.splice (E.T.enc e' y) off ds') with
        | none=>simp [hdec] at hk
        | some y' =>
         simp only [hdec] at hk
         obtain ⟨w',γ',φ',av',h2,h3⟩:=yuEy hok h hx hn h1 hi hl hds htg hy hoff hdec ha
         refine ⟨undef,w',.inr ⟨?_,rfl⟩,.undef,_,_,γ',φ',av',hk,h3,trivial⟩
         simp [execOp,ho,h2]
       ·cases hk
     ·cases hk
 ·cases hk
theorem yr7y {look:Nat→Option (Ob A)}:∀ {xs:List (AV A)} {x:AV A} {us:List Value} {u:Value} {v:AV A},RAV T w av look γ x u→RAVs T w av look γ xs us→maxAV x xs = some v →
  ∃ r,(us.foldlM Builtin.max2 u:Sem Value).run P w = .ok r w∧RAV T w av look γ v r
 | [],x,us,u,v,hx,hxs,h=>by
  simp only [RAVs] at hxs
  subst hxs
  cases x <;> simp [maxAV] at h <;> subst h <;> exact ⟨u,by simp,hx⟩
 | y::ys,x,us,u,v,hx,hxs,h=>by
  simp only [RAVs] at hxs
  obtain ⟨uy,us',rfl,hy,hys⟩:=hxs
  unfold maxAV at h
  split at h
  ·rename_i heq;cases heq
  ·rename_i kx a ky b r heq
   cases heq
   split at h
   ·rename_i hkk
    subst hkk
    simp only [RAV,DR.int] at hx hy
    subst hx hy
    obtain ⟨r,h1,h2⟩:=yr7y (x:=.d (.int kx (if b > a then b else a))) (u:=.int kx (if b > a then b else a)) (by simp only [RAV,DR.int]) hys h
    exact ⟨r,by simpa [Builtin.max2] using h1,h2⟩
   ·cases h
  ·cases h
theorem yswy {look:Nat→Option (Ob A)}:∀ {xs:List (AV A)} {x:AV A} {us:List Value} {u:Value} {v:AV A},RAV T w av look γ x u→RAVs T w av look γ xs us→minAV x xs = some v →
  ∃ r,(us.foldlM Builtin.min2 u:Sem Value).run P w = .ok r w∧RAV T w av look γ v r
 | [],x,us,u,v,hx,hxs,h=>by
  simp only [RAVs] at hxs
  subst hxs
  cases x <;> simp [minAV] at h <;> subst h <;> exact ⟨u,by simp,hx⟩
 | y::ys,x,us,u,v,hx,hxs,h=>by
  simp only [RAVs] at hxs
  obtain ⟨uy,us',rfl,hy,hys⟩:=hxs
  unfold minAV at h
  split at h
  ·rename_i heq;cases heq
  ·rename_i kx a ky b r heq
   cases heq
   split at h
   ·rename_i hkk
    subst hkk
    simp only [RAV,DR.int] at hx hy
    subst hx hy
    obtain ⟨r,h1,h2⟩:=yswy (x:=.d (.int kx (if b < a then b else a))) (u:=.int kx (if b < a then b else a)) (by simp only [RAV,DR.int]) hys h
    exact ⟨r,by simpa [Builtin.min2] using h1,h2⟩
   ·cases h
  ·cases h
theorem Rel.evals (h:Rel T w0 F0 X γ φ av w tmps S) (ds:List Deferred):∀ (l:List Operand),RAVs T w av S.look γ (l.map (yafy S.fr)) (l.map (Act.eval ⟨tmps,ds⟩))
 | []=>by simp [RAVs]
 | x::xs=>by simp only [List.map_cons,RAVs];exact ⟨_,_,rfl,h.eval ds x,h.evals ds xs⟩
theorem DR.opened {T:Ty A} {look:Nat→Option (Ob A)} {γ:Nat→Value} {f e:Nat} {xs:List (A e)} {v:Value} (h:DR T w av (.clo f e xs) v):∃ vs,v = .func (.func f) #[] vs∧RAVs T w av look γ [.cel [.sl e xs] 0,.cel [.clo f e xs] 0] vs.toList:=by
 obtain ⟨n,hn⟩:=h
 have hn0:=hn
 cases n with
 | zero=>exact hn.elim
 | succ n =>
  simp only [DRep] at hn
  obtain ⟨b1,o1,c1,ty1,fz1,u,b2,c2,ty2,fz2,h0,h1,h2,h3,h4,h5,h6,h7⟩:=hn
  refine ⟨_,h0,?_⟩
  simp only [RAVs,RAV]
  refine ⟨_,_,rfl,⟨b1,o1,c1,ty1,fz1,rfl,h1,h2,fun j d hj=>?_⟩,_,_,rfl,⟨b2,0,c2,ty2,fz2,rfl,h5,h6,fun j d hj=>?_⟩,rfl⟩
  ·cases j with
   | zero=>simp at hj;subst hj;exact ⟨u,h3,n,h4⟩
   | succ j=>simp at hj
  ·cases j with
   | zero=>simp at hj;subst hj;exact ⟨v,h7,n + 1,hn0⟩
   | succ j=>simp at hj
theorem yGEy (E:Env A) (hE:EnvOk E) (h:Rel E.T w0 F0 X γ φ av w tmps S) {o:Oper} {c:Call} {ds:List Deferred} (ho:o.op = .call c)
  (hk:opK E S.look (yafy S.fr) k o = some res) (hf:∀ v u ts,k v u ts = some res→yazy S u = true):Ran E w0 F0 X tmps S k res w ((execOp (Act.eval ⟨tmps,ds⟩) o).run E.P w):=by
 have hargs:=h.evals ds c.args.toList
 unfold opK at hk
 simp only [ho] at hk
 cases hcal:c.callee with
 | invoke r n=>simp [hcal] at hk
 | value f =>
  simp only [hcal] at hk
  have hv:=h.eval ds f
  have hoc:∀ t,occAV t (yafy S.fr f) = true→occSt t S = true:=fun t ht=>ylsy ht
  generalize yafy S.fr f = vf at hk hv hoc
  obtain ⟨fn,caps,hk,vs,hv,hvs,hoc⟩:∃ fn caps,callS E S.look k (E.tags o) fn caps (c.args.toList.map (yafy S.fr)) = some res∧∃ vs,Act.eval ⟨tmps,ds⟩ f = .func (.func fn) #[] vs∧RAVs E.T w av S.look γ caps vs.toList∧∀ t,yady t caps = true→occSt t S = true:=by
   cases vf <;> (try simp only at hk) <;> try (cases hk;done)
   ·rename_i y
    cases y <;> (try simp only at hk) <;> try (cases hk;done)
    rename_i fn e xs
    simp only [RAV] at hv
    obtain ⟨vs,hv,hvs⟩:=hv.opened (look:=S.look) (γ:=γ)
    exact ⟨fn,_,hk,vs,hv,hvs,fun t ht=>by simp [yady,occAV] at ht⟩
   ·rename_i fn caps
    simp only [RAV] at hv
    obtain ⟨vs,hv,hvs⟩:=hv
    exact ⟨fn,caps,hk,vs,hv,hvs,fun t ht=>hoc t (by simpa [occAV] using ht)⟩
  obtain ⟨h1,h2⟩:=ywsy E hE.tab hE.sp hE.flat h (hargs.append hvs) (fun t ht=>by
   rw [yhgy,Bool.or_eq_true] at ht
   rcases ht with ht | ht
   ·have:∀ (l:List Operand),yady t (l.map (yafy S.fr)) = true→occSt t S = true:=by
     intro l
     induction l with
     | nil=>simp [yady]
     | cons x xs ih =>
      intro hl
      simp only [List.map_cons,yady,Bool.or_eq_true] at hl
      exact hl.elim ylsy ih
    exact this _ ht
   ·exact hoc t ht) hf hk
  refine .inr ⟨fn,_,?_,h2⟩
  simp [execOp,ho,resolve,hcal,hv,Deferred.ofValue,invoke]
  have:=h1 (c.args.map (Act.eval ⟨tmps,ds⟩)++vs) w
  rw [this]
  congr 2
  apply Array.toList_inj.1
  simp
 | builtin b =>
  simp only [hcal] at hk
  cases b <;> (try simp only at hk) <;> try (cases hk;done)
  case append =>
   cases hca:c.args.toList with
   | nil=>simp [hca] at hk
   | cons s r =>
    cases r with
    | nil=>simp [hca] at hk
    | cons x r =>
     cases r with
     | cons y r=>simp [hca] at hk
     | nil =>
      cases hct:c.argTypes.toList with
      | nil=>simp [hca,hct] at hk
      | cons sT r =>
       cases r with
       | nil=>simp [hca,hct] at hk
       | cons xT r =>
        cases r with
        | cons y r=>simp [hca,hct] at hk
        | nil =>
         simp only [hca,hct] at hk
         obtain ⟨u,w',h1,h2⟩:=yy2y E hE.ty h hk hf (h.eval ds s) (h.eval ds x) o.type
         refine .inl ⟨u,w',.inl ?_,h2⟩
         have e1:c.args = #[s,x]:=Array.toList_inj.1 (by simp [hca])
         have e2:c.argTypes = #[sT,xT]:=Array.toList_inj.1 (by simp [hct])
         simp [execOp,ho,resolve,hcal,invoke,builtin,e1,e2,h1]
  case len =>
   cases hca:c.args.toList with
   | nil=>simp [hca] at hk
   | cons x r =>
    cases r with
    | cons y r=>simp [hca] at hk
    | nil =>
     cases hct:c.argTypes.toList with
     | nil=>simp [hca,hct] at hk
     | cons t r =>
      cases r with
      | cons y r=>simp [hca,hct] at hk
      | nil =>
       simp only [hca,hct] at hk
       cases hl:lenAV S.look (yafy S.fr x) with
       | none=>simp [hl] at hk
       | some p =>
        obtain ⟨n,ts⟩:=p
        cases ht:lenT E.P t (yafy S.fr x) with
        | false=>simp [hl,ht] at hk
        | true =>
         simp only [hl,ht] at hk
         have h1:=yJfy E h (h.eval ds x) hl ht (ty:=o.type)
         have e1:c.args = #[x]:=Array.toList_inj.1 (by simp [hca])
         have e2:c.argTypes = #[t]:=Array.toList_inj.1 (by simp [hct])
         exact .inl (yaty (u:=.int .i64 n) h hk (by simp [execOp,ho,resolve,hcal,invoke,builtin,e1,e2,h1]) (by simp only [RAV,DR.int]))
  case clear =>
   cases hca:c.args.toList with
   | nil=>simp [hca] at hk
   | cons x r =>
    cases r with
    | cons y r=>simp [hca] at hk
    | nil =>
     cases hct:c.argTypes.toList with
     | nil=>simp [hca,hct] at hk
     | cons t r =>
      cases r with
      | cons y r=>simp [hca,hct] at hk
      | nil =>
       simp only [hca,hct] at hk
       have hx:=h.eval ds x
       have e1:c.args = #[x]:=Array.toList_inj.1 (by simp [hca])
       have e2:c.argTypes = #[t]:=Array.toList_inj.1 (by simp [hct])
       generalize yafy S.fr x = vx at hk hx
       split at hk
       ·rename_i e' tg lo hi e he
        split at hk
        ·rename_i e'' xs dz hl hz
         split at hk
         ·rename_i hc
          obtain ⟨rfl,rfl,hsz⟩:=hc
          split at hk
          ·rename_i z hdz
           cases hb:(decide (0≤lo)&&(decide (lo≤hi)&&decide (hi.toNat≤xs.length))) with
           | false=>rw [hb] at hk;cases hk
           | true =>
            rw [hb] at hk
            simp only [cond_true] at hk
            simp only [Bool.and_eq_true,decide_eq_true_eq] at hb
            cases hzz:zeros (A:=A) E.P e'' with
            | none=>simp [hzz] at hz
            | some cs =>
             simp [hzz] at hz
             obtain ⟨w',γ',φ',h1,h2⟩:=yAIy E hE.ty h hx hl (ybDy he) hzz hz hdz hb.1 hb.2.1 hb.2.2 (ty:=o.type)
             refine .inl ⟨.tuple #[],w',.inl ?_,_,_,_,γ',φ',av,hk,h2,?_⟩
             ·simp [execOp,ho,resolve,hcal,invoke,builtin,e1,e2,h1]
             ·simp only [RAV,RAVs]
              exact ⟨_,rfl,rfl⟩
          ·cases hk
         ·cases hk
        ·cases hk
       ·cases hk
  case delete =>
   cases hca:c.args.toList with
   | nil=>simp [hca] at hk
   | cons x r =>
    cases r with
    | nil=>simp [hca] at hk
    | cons i r =>
     cases r with
     | cons y r=>simp [hca] at hk
     | nil =>
      cases hct:c.argTypes.toList with
      | nil=>simp [hca,hct] at hk
      | cons t tl =>
       simp only [hca,hct] at hk
       have hx:=h.eval ds x
       have hi:=h.eval ds i
       have e1:c.args = #[x,i]:=Array.toList_inj.1 (by simp [hca])
       have e2:c.argTypes[0]? = some t:=by rw [← Array.getElem?_toList,hct];rfl
       generalize yafy S.fr x = vx at hk hx
       generalize yafy S.fr i = vi at hk hi
       split at hk
       ·rename_i ki e tg hm
        split at hk
        ·rename_i k' e' m key hl hun
         split at hk
         ·rename_i m' hcm hkd
          obtain ⟨rfl,rfl,hmm⟩:=ypay hcm
          have hm2:m = m':=hmm.symm
          clear hmm hcm
          subst hm2
          obtain ⟨w',γ',φ',h1,h2⟩:=yy7y E hE.ty hE.keys h hx hi hm hl hun hkd (ty:=o.type) c.argTypes e2
          refine .inl ⟨.tuple #[],w',.inl ?_,_,_,_,γ',φ',av,hk,h2,?_⟩
          ·simp [execOp,ho,resolve,hcal,invoke,builtin,e1,h1]
          ·simp only [RAV,RAVs]
           exact ⟨_,rfl,rfl⟩
         ·cases hk
        ·cases hk
       ·cases hk
  case max =>
   cases hca:c.args.toList with
   | nil=>simp [hca] at hk
   | cons x r =>
    simp only [hca] at hk
    cases hm:maxAV (yafy S.fr x) (r.map (yafy S.fr)) with
    | none=>simp [hm] at hk
    | some v =>
     simp only [hm,Option.bind_some] at hk
     obtain ⟨u,h1,h2⟩:=yr7y (P:=E.P) (h.eval ds x) (h.evals ds r) hm
     refine .inl (yaty (u:=u) h hk ?_ h2)
     simp [execOp,ho,resolve,hcal,invoke,builtin,Builtin.max_,hca,h1]
  case min =>
   cases hca:c.args.toList with
   | nil=>simp [hca] at hk
   | cons x r =>
    simp only [hca] at hk
    cases hm:minAV (yafy S.fr x) (r.map (yafy S.fr)) with
    | none=>simp [hm] at hk
    | some v =>
     simp only [hm,Option.bind_some] at hk
     obtain ⟨u,h1,h2⟩:=yswy (P:=E.P) (h.eval ds x) (h.evals ds r) hm
     refine .inl (yaty (u:=u) h hk ?_ h2)
     simp [execOp,ho,resolve,hcal,invoke,builtin,Builtin.min_,hca,h1]
theorem yCXy (E:Env A) (hE:EnvOk E) (h:Rel E.T w0 F0 X γ φ av w tmps S) {o:Oper} {ds:List Deferred}
  (hk:opK E S.look (yafy S.fr) k o = some res) (hf:∀ v u ts,k v u ts = some res→yazy S u = true):Ran E w0 F0 X tmps S k res w ((execOp (Act.eval ⟨tmps,ds⟩) o).run E.P w):=by
 have hok:=hE.ty
 cases ho:o.op with
 | move x=>exact .inl (yxHy E h (.inl ho) hk)
 | assign x=>exact .inl (yxHy E h (.inr ho) hk)
 | pick c a b=>exact .inl (yFty E h ho hk)
 | alloc e=>exact .inl (yEzy E h ho hk hf)
 | box e x=>exact .inl (yI9y E h ho hk hf)
 | build t ps=>exact .inl (yEty E h ho hk)
 | buildSlice t n ps=>exact .inl (ysWy E hok h ho hk hf)
 | load t a=>exact .inl (yHFy E h ho hk)
 | store t a x=>exact .inl (yDby E hok h ho hk)
 | nilCheck x=>exact .inl (yxky E h ho hk)
 | binOp op t x y t'=>exact .inl (yCWy E h ho hk)
 | unOp op t x=>exact .inl (yEIy E h ho hk)
 | convert s d x=>exact .inl (yzfy E h ho hk)
 | makeFunc fn fs cs=>exact .inl (yxwy E h ho hk)
 | makeSlice t n c=>exact .inl (yvPy E hok h ho hk hf)
 | slice t x lo hi mx=>exact .inl (yCZy E hok h ho hk hf)
 | fieldAddr s x f=>exact .inl (yt1y E h ho hk)
 | field s x f=>exact .inl (yD1y E h ho hk)
 | indexAddr t x i=>exact .inl (yvwy E hok h ho hk)
 | index t x i=>exact .inl (yEuy E h ho hk)
 | extract x i=>exact .inl (yzLy E h ho hk)
 | makeMap t r=>exact .inl (yzBy E h ho hk hf)
 | lookup t x i ok=>exact .inl (yA5y E hok hE.keys h ho hk)
 | mapUpdate t x i y=>exact .inl (ymIy E hok hE.keys h ho hk)
 | insert t x i y=>exact .inl (yA0y E hok hE.keys h ho hk)
 | call c=>exact yGEy E hE h ho hk hf
 | _=>unfold opK at hk;simp only [ho] at hk;cases hk
end Go.Am
set_option linter.unusedVariables false
set_option linter.unusedSimpArgs false
namespace Go.Am
open Go
variable {A:Nat→Type}
variable {T:Ty A} {w0 w w':World} {F0:List Nat} {X:Nat→Prop} {γ γ':Nat→Value} {φ φ':Nat→List Nat} {av av':Nat→Prop} {tmps:Array Value} {S S':St A} {R:Type} {P:Program} {res:R}
def Pins (E:Env A) (us tmps:Array Value):Prop:=∀ i∈E.pin,tmps[i]? = us[i]?
def Rels (E:Env A) (w0:World) (F0:List Nat) (X:Nat→Prop) (us:Array Value) (w:World) (tmps:Array Value) (S:St A):Prop :=
 (∃ γ φ av,Rel E.T w0 F0 X γ φ av w tmps S)∧Pins E us tmps
theorem Pins.put {E:Env A} {us:Array Value} {o:Oper} (h:Pins E us tmps) (hp:E.pinned o = false) (v:Value) (ds:List Deferred):Pins E us (Act.put ⟨tmps,ds⟩ o.dst v).tmps:=by
 cases hd:o.dst with
 | none=>simpa [Act.put] using h
 | some d =>
  simp only [Act.put]
  intro i hi
  have hne:d≠i:=by
   intro e
   subst e
   simp [Env.pinned,hd,hi] at hp
  rw [Array.getElem?_setIfInBounds_ne hne]
  exact h i hi
theorem Act.put_mk {ds:List Deferred} (dst:Option Tmp) (v:Value):Act.put ⟨tmps,ds⟩ dst v = ⟨(Act.put ⟨tmps,ds⟩ dst v).tmps,ds⟩:=by cases dst <;> rfl
theorem Rel.putO (h:Rel T w0 F0 X γ φ av w tmps S) {x:AV A} {v:Value} (dst:Option Nat) (hx:RAV T w av S.look γ x v) (ds:List Deferred) :
  Rel T w0 F0 X γ φ av w (Act.put ⟨tmps,ds⟩ dst v).tmps (S.put dst x):=by
 cases dst with
 | none=>exact h
 | some d=>exact h.put d hx
theorem ymLy {ops:List Oper} {i:Nat} {o:Oper} {k:St A→List Nat→Option R} {v:AV A} {u:Upd A} {ts:List Nat} {flt:AV A→Upd A→List Nat→Bool} (h:behind ops i o S flt k v u ts = some res) :
  yazy S u = true∧flt v u ts = true∧k ((S.upd u).put o.dst v) ts = some res:=by
 unfold behind at h
 cases hf:yazy S u&&flt v u ts with
 | false=>simp [hf] at h
 | true =>
  rw [Bool.and_eq_true] at hf
  refine ⟨hf.1,hf.2,?_⟩
  simp only [hf.1,hf.2,Bool.and_self,Bool.not_true,cond_false] at h
  split at h
  ·rename_i b d _ hd
   rw [hd]
   cases b <;> simpa using h
  ·exact h
def RanK (P:Program) (o:Oper) (a:Act) (w:World) (K:Act→World→Prop):Prop :=
 (∃ u w',(execOp a.eval o).run P w = .ok (.value u) w'∧K (a.put o.dst u) w') ∨ (∃ w',(execOp a.eval o).run P w = .ok .skip w'∧K (a.put o.dst undef) w') ∨
  ∃ f us,(execOp a.eval o).run P w = .ok (.enter f us) w∧Calls P f us w fun e w'=>∃ v,e = .returned v∧K (a.put o.dst v) w'
theorem RanK.wp {o:Oper} {a:Act} {K:Act→World→Prop} (h:RanK P o a w K) (Q:Exit→Act→World→Prop):o.wp P a w K Q:=by
 unfold Oper.wp
 rcases h with ⟨u,w',h1,h2⟩ | ⟨w',h1,h2⟩ | ⟨f,us,h1,h2⟩
 ·rw [h1];exact h2
 ·rw [h1];exact h2
 ·rw [h1];exact Calls.mono h2 (by rintro e w' ⟨v,rfl,h3⟩;exact h3)
theorem yIxy (E:Env A) (hE:EnvOk E) (h:Rel E.T w0 F0 X γ φ av w tmps S) {o:Oper} {ds:List Deferred} {k:AV A→Upd A→List Nat→Option R}
  (hk:opK E S.look (yafy S.fr) k o = some res) (hf:∀ v u ts,k v u ts = some res→yazy S u = true) {next:Act→World→Prop}
  (hn:∀ u w',After E.T w0 F0 X tmps S k res u w'→next (Act.put ⟨tmps,ds⟩ o.dst u) w'):RanK E.P o ⟨tmps,ds⟩ w next:=by
 rcases yCXy E hE h (ds:=ds) hk hf with ⟨u,w',h1 | ⟨h1,rfl⟩,h2⟩ | ⟨f,us,h1,h2⟩
 ·exact .inl ⟨u,w',h1,hn u w' h2⟩
 ·exact .inr (.inl ⟨w',h1,hn undef w' h2⟩)
 ·exact .inr (.inr ⟨f,us,h1,Calls.mono h2 (by rintro e w' ⟨v,rfl,h3⟩;exact ⟨v,rfl,hn v w' h3⟩)⟩)
theorem ywYy {E:Env A} {look:Nat→Option (Ob A)} {ρ:Operand→AV A} {k:AV A→Upd A→List Nat→Option R} {o:Oper} (hk:opK E look ρ k o = some res) (c:Call):o.op≠.defer c:=by
 intro ho
 unfold opK at hk
 rw [ho] at hk
 cases hk
theorem ypwy (E:Env A) (hE:EnvOk E) {us:Array Value} {ops:Array Oper} {i:Nat} {o:Oper} (hi:ops[i]? = some o) {k:St A→List Nat→Option R} (h:Rels E w0 F0 X us w tmps S)
  {flt:AV A→Upd A→List Nat→Bool} (hk:stepK E ops.toList i o S flt k = some res) (ds:List Deferred) {K:Act→World→Prop}
  (hn:∀ S' ts tmps' w',k S' ts = some res→Rels E w0 F0 X us w' tmps' S'→K ⟨tmps',ds⟩ w') :
  (Region.wanted o (yielded ops tmps) = true∧(∀ c,o.op≠.defer c)∧RanK E.P o ⟨tmps,ds⟩ w K) ∨ (Region.wanted o (yielded ops tmps) = false∧K (Act.put ⟨tmps,ds⟩ o.dst undef) w):=by
 obtain ⟨⟨γ,φ,av,hr⟩,hp⟩:=h
 unfold stepK at hk
 cases hpin:E.pinned o with
 | true=>simp [hpin] at hk
 | false =>
  simp only [hpin,cond_false] at hk
  have main:opK E S.look (yafy S.fr) (behind ops.toList i o S flt k) o = some res→(∀ c,o.op≠.defer c)∧RanK E.P o ⟨tmps,ds⟩ w K:=by
   intro hk
   refine ⟨ywYy hk,yIxy E hE hr hk (fun v u ts h=>(ymLy h).1) ?_⟩
   rintro u w' ⟨v,upd,ts,γ',φ',av',h1,h2,h3⟩
   obtain ⟨h4,_,h5⟩:=ymLy h1
   rw [Act.put_mk]
   exact hn _ _ _ _ h5 ⟨⟨γ',φ',av',h2.putO o.dst h3 ds⟩,hp.put hpin u ds⟩
  have skip:behind ops.toList i o S flt k (.tup []) [] [] = some res→K (Act.put ⟨tmps,ds⟩ o.dst undef) w:=by
   intro hk
   obtain ⟨_,_,h5⟩:=ymLy hk
   rw [Act.put_mk]
   exact hn _ _ _ _ h5 ⟨⟨γ,φ,av,hr.putO o.dst (x:=.tup []) (by simp only [RAV,RAVs];exact ⟨_,rfl,rfl⟩) ds⟩,hp.put hpin undef ds⟩
  cases hg:o.guard with
  | none =>
   simp only [hg] at hk
   have:Region.wanted o (yielded ops tmps) = true:=by simp [Region.wanted,hg]
   exact .inl ⟨this,main hk⟩
  | some g =>
   obtain ⟨j,want⟩:=g
   simp only [hg] at hk
   cases hd:(ops.toList[j]?).bind (·.dst) with
   | none=>rw [hd] at hk;cases hk
   | some d =>
    rw [hd] at hk
    simp only at hk
    have hd':(ops[j]?).bind (·.dst) = some d:=by simpa using hd
    cases hv:(S.fr[d]?).getD .undef with
    | d y =>
     rw [hv] at hk
     cases y <;> (try simp only at hk) <;> try (cases hk;done)
     rename_i b
     have hslot:tmps[d]? = some (.bool b):=by
      cases hx:S.fr[d]? with
      | none=>simp [hx] at hv
      | some x =>
       simp [hx] at hv
       subst hv
       obtain ⟨u,hu,hru⟩:=hr.fr.get hx
       simp only [RAV,DR.bool] at hru
       simpa [hru] using hu
     have hy:yielded ops tmps j = some b:=by simp [yielded,hd',hslot]
     have hw:Region.wanted o (yielded ops tmps) = (b == want):=by
      simp only [Region.wanted,hg,hy]
      cases b <;> cases want <;> rfl
     rw [hw]
     cases hbw:b == want with
     | true =>
      simp only [hbw,cond_true] at hk
      exact .inl ⟨rfl,main hk⟩
     | false =>
      simp only [hbw,cond_false] at hk
      exact .inr ⟨rfl,skip hk⟩
    | tup cs =>
     rw [hv] at hk
     cases cs with
     | cons c cs=>simp at hk
     | nil =>
      simp only at hk
      have hslot:tmps[d]? = some (.tuple #[]):=by
       cases hx:S.fr[d]? with
       | none=>simp [hx] at hv
       | some x =>
        simp [hx] at hv
        subst hv
        obtain ⟨u,hu,hru⟩:=hr.fr.get hx
        simp only [RAV,RAVs] at hru
        obtain ⟨vs,rfl,hvs⟩:=hru
        obtain rfl:vs = #[]:=Array.toList_inj.1 hvs
        simpa using hu
      have hy:yielded ops tmps j = none:=by simp [yielded,hd',hslot]
      have hw:Region.wanted o (yielded ops tmps) = false:=by
       simp only [Region.wanted,hg,hy]
       rfl
      exact .inr ⟨hw,skip hk⟩
    | _=>rw [hv] at hk;simp at hk
theorem yjiy (E:Env A) (hE:EnvOk E) {us:Array Value} {ops:Array Oper} {i:Nat} {o:Oper} (hi:ops[i]? = some o) {k:St A→List Nat→Option R} (h:Rels E w0 F0 X us w tmps S)
  {flt:AV A→Upd A→List Nat→Bool} (hk:stepK E ops.toList i o S flt k = some res) {Q:Exit→Act→World→Prop} {K:Act→World→Prop}
  (hn:∀ S' ts tmps' w',k S' ts = some res→Rels E w0 F0 X us w' tmps' S'→K ⟨tmps',[]⟩ w'):wpOp E.P ops Q i K ⟨tmps,[]⟩ w:=by
 unfold wpOp
 simp only [hi]
 rcases ypwy E hE hi h hk [] hn with ⟨h1,_,h2⟩ | ⟨h1,h2⟩
 ·rw [if_pos h1];exact .inl (h2.wp Q)
 ·rw [if_neg (by rw [h1];simp)];exact h2
theorem yqDy (E:Env A) (hE:EnvOk E) {us:Array Value} {ops:Array Oper} {Q:Exit→Act→World→Prop}:∀ {l:List (Nat×Oper)} {k:St A→Option R} {S:St A} {tmps:Array Value} {w:World},
  (∀ p∈l,ops[p.1]? = some p.2)→Rels E w0 F0 X us w tmps S→regK E ops.toList l S k = some res →
  (∀ S' tmps' w',k S' = some res→Rels E w0 F0 X us w' tmps' S'→Q .normal ⟨tmps',[]⟩ w')→wpOps E.P ops Q (l.map (·.1)) ⟨tmps,[]⟩ w
 | [],k,S,tmps,w,hl,h,hk,hq=>by
  simp only [regK] at hk
  simpa [wpOps] using hq _ _ _ hk h
 | (i,o)::r,k,S,tmps,w,hl,h,hk,hq=>by
  simp only [regK] at hk
  simp only [List.map_cons]
  rw [wpOps_cons]
  exact yjiy E hE (hl (i,o) (by simp)) h hk (fun S' ts tmps' w' h1 h2=>yqDy E hE (fun p hp=>hl p (by simp [hp])) h2 h1 hq)
end Go.Am
set_option linter.unusedVariables false
set_option linter.unusedSimpArgs false
namespace Go.Am
open Go
variable {A:Nat→Type} {R:Type}
def yaIy (s:Spec A):Prop:=∀ args (R:Type) (k:IV A→List (IV A)→Option R),s args k = (s args (fun r ys=>some (r,ys))).bind fun p=>k p.1 p.2
def yahy (C:Table A):Prop:=∀ f s,C f = some s→yaIy s
abbrev O3 (A:Nat→Type):=AV A×Upd A×List Nat
def ret3 (v:AV A) (u:Upd A) (ts:List Nat):Option (O3 A):=some (v,u,ts)
variable (E:Env A) (look:Nat→Option (Ob A)) (ρ:Operand→AV A) (k:AV A→Upd A→List Nat→Option R)
theorem yccy {α β:Type} (c:Bool) (x y:Option α) (f:α→Option β):(bif c then x else y).bind f = bif c then x.bind f else y.bind f:=by cases c <;> rfl
theorem yeSy {α β:Type} (c:Prop) [Decidable c] (x y:Option α) (f:α→Option β):(if c then x else y).bind f = if c then x.bind f else y.bind f:=by split <;> rfl
theorem ye1y (v:AV A) (u:Upd A) (ts:List Nat) (f:O3 A→Option R):(ret3 v u ts).bind f = f (v,u,ts):=rfl
theorem ylqy (x:AV A) (lo hi:Option (AV A)):yepy k x lo hi = (yepy ret3 x lo hi).bind fun p=>k p.1 p.2.1 p.2.2:=by
 unfold yepy
 split <;> simp only [yccy,ye1y,Option.bind_none]
theorem yovy (g:AV A→Upd A→List Nat→O3 A) (x:AV A) (lo hi:Option (AV A)) :
  yepy (fun v u ts=>k (g v u ts).1 (g v u ts).2.1 (g v u ts).2.2) x lo hi = (yepy (fun v u ts=>ret3 (g v u ts).1 (g v u ts).2.1 (g v u ts).2.2) x lo hi).bind fun p=>k p.1 p.2.1 p.2.2:=by
 rw [ylqy (R:=R),ylqy (R:=O3 A) (fun v u ts=>ret3 (g v u ts).1 (g v u ts).2.1 (g v u ts).2.2),Option.bind_assoc]
 rfl
theorem ywuy (tags:List Nat) (sT:Nat) (z:Bool) (s x:AV A):ycTy E look k tags sT z s x = (ycTy E look ret3 tags sT z s x).bind fun p=>k p.1 p.2.1 p.2.2:=by
 unfold ycTy
 repeat' (first | rfl | simp only [yccy,ye1y,Option.bind_none,yeSy] | split)
theorem ylWy (hC:yahy E.C) (tags:List Nat) (f:Nat) (caps args:List (AV A)):callK E look k tags f caps args = (callK E look ret3 tags f caps args).bind fun p=>k p.1 p.2.1 p.2.2:=by
 unfold callK
 cases hs:E.C f with
 | none=>rfl
 | some spec =>
  cases hh:ybzy look (E.mode f) 0 (args++caps) with
  | none=>rfl
  | some p =>
   obtain ⟨xs,ts,lent⟩:=p
   simp only [yeSy,Option.bind_none]
   split
   ·rw [hC f spec hs,hC f spec hs xs (O3 A)]
    cases spec xs (fun r ys=>some (r,ys)) with
    | none=>rfl
    | some q =>
     simp only [Option.bind_some]
     repeat' (first | rfl | simp only [yccy,ye1y,Option.bind_none,yeSy] | split)
   ·rfl
theorem yAty (tags:List Nat) (f1:Nat) (mp:Bool) (vs:List (AV A)):wrapK look k tags f1 mp vs = (wrapK look ret3 tags f1 mp vs).bind fun p=>k p.1 p.2.1 p.2.2:=by
 unfold wrapK
 repeat' (first | rfl | simp only [yccy,ye1y,Option.bind_none,yeSy] | split)
theorem ypky (m:Nat) (vs:List (AV A)):bldK look k m vs = (bldK look ret3 m vs).bind fun p=>k p.1 p.2.1 p.2.2:=by
 unfold bldK
 repeat' (first | rfl | simp only [yccy,ye1y,Option.bind_none,yeSy] | split)
theorem yCgy (hC:yahy E.C) (tags:List Nat) (f:Nat) (caps args:List (AV A)):callS E look k tags f caps args = (callS E look ret3 tags f caps args).bind fun p=>k p.1 p.2.1 p.2.2:=by
 unfold callS
 cases E.sp f with
 | none=>exact ylWy _ _ _ hC _ _ _ _
 | some s =>
  cases s with
  | wrap f1 mp=>exact yAty _ _ _ _ _ _
  | bwr=>exact ypky _ _ _ _
  | bln=>exact ypky _ _ _ _
  | bst=>exact ypky _ _ _ _
  | keys f1 kk srt =>
   simp only
   cases ykcy look f1 kk (args++caps) with
   | none=>rfl
   | some p =>
    obtain ⟨tB,t,ks⟩:=p
    simp only
    cases srt ks with
    | none=>rfl
    | some xs =>
     simp only
     have hn:yahy (E.giving kk xs).C:=fun g s hg=>by
      simp only [Env.giving,Option.some.injEq] at hg
      subst hg
      exact fun _ _ _=>rfl
     rw [ylWy _ _ _ hn,ylWy _ _ (fun v u ts=>ret3 v u (tB::t::ts)) hn,Option.bind_assoc]
     rfl
theorem yFuy (hC:yahy E.C) (o:Oper):opK E look ρ k o = (opK E look ρ ret3 o).bind fun p=>k p.1 p.2.1 p.2.2:=by
 unfold opK
 cases o.op <;> simp only <;> (repeat' (first | rfl | simp only [yccy,ye1y,Option.bind_none,yeSy,Option.bind_assoc] | exact ylqy _ _ _ _ | exact yovy _ (fun v u ts=>(v,_::u,_::ts)) _ _ _ | exact yovy _ (fun v u ts=>(v,u,_::ts)) _ _ _ | exact ywuy _ _ _ _ _ _ _ _ | exact yCgy _ _ _ hC _ _ _ _ | split))
end Go.Am
set_option linter.unusedVariables false
set_option linter.unusedSimpArgs false
namespace Go.Am
open Go
variable {A:Nat→Type} {R:Type}
variable (E:Env A) (look:Nat→Option (Ob A)) (ρ:Operand→AV A) (k:AV A→Upd A→List Nat→Option R)
theorem yvvy {α:Type} {b:Bool} {x:Option α} {p:α} (h:(bif b then x else none) = some p):x = some p:=by cases b with | true=>exact h | false=>cases h
theorem yCay {ρ ρ':Operand→AV A} {l:Array Operand} (h:∀ x∈l,ρ x = ρ' x):l.toList.map ρ = l.toList.map ρ':=List.map_congr_left (fun x hx=>h x (by simpa using hx))
theorem yyHy {ρ ρ':Operand→AV A} {l:Option Operand} (h:∀ x∈l.toArray,ρ x = ρ' x):l.map ρ = l.map ρ':=by cases l <;> simp_all
theorem yx2y {ρ ρ':Operand→AV A} {ps:Array (Nat×Operand)} (h:∀ x∈(ps.toList.map (·.2)).toArray,ρ x = ρ' x):(ps.toList.map fun p=>(p.1,ρ p.2)) = ps.toList.map fun p=>(p.1,ρ' p.2) :=
 List.map_congr_left (fun p hp=>by rw [h p.2 (by simp;exact ⟨p.1,by simpa using hp⟩)])
theorem yBpy {ρ ρ':Operand→AV A} (o:Oper) (h:∀ x∈o.op.operands,ρ x = ρ' x):opK E look ρ k o = opK E look ρ' k o:=by
 unfold opK
 cases ho:o.op <;> rw [ho] at h <;> simp only [Op.operands] at h <;> (try rfl)
 case move x=>simp only [h x (by simp)]
 case assign x=>simp only [h x (by simp)]
 case pick c a b=>simp only [h c (by simp),h a (by simp),h b (by simp)]
 case box e x=>simp only [h x (by simp)]
 case build t ps=>simp only [yx2y h]
 case buildSlice t n ps=>simp only [yx2y h]
 case load t a=>simp only [h a (by simp)]
 case store t a x=>simp only [h a (by simp),h x (by simp)]
 case nilCheck x=>simp only [h x (by simp)]
 case binOp op t x y t'=>simp only [h x (by simp),h y (by simp)]
 case unOp op t x=>simp only [h x (by simp)]
 case convert s d x=>simp only [h x (by simp)]
 case makeFunc f a c=>simp only [yCay (l:=c) (fun x hx=>h x (by simp [hx]))]
 case makeSlice t a c=>simp only [h a (by simp),h c (by simp)]
 case slice t x lo hi mx=>simp only [h x (by simp),yyHy (l:=lo) (fun x hx=>h x (by simp at hx;simp [hx])),yyHy (l:=hi) (fun x hx=>h x (by simp at hx;simp [hx]))]
 case fieldAddr s x f=>simp only [h x (by simp)]
 case field s x f=>simp only [h x (by simp)]
 case indexAddr t x i=>simp only [h x (by simp),h i (by simp)]
 case index t x i=>simp only [h x (by simp),h i (by simp)]
 case extract x i=>simp only [h x (by simp)]
 case makeMap t r=>cases r <;> rfl
 case lookup t x i ok=>simp only [h x (by simp),h i (by simp)]
 case mapUpdate t x i y=>simp only [h x (by simp),h i (by simp),h y (by simp)]
 case insert t x i y=>simp only [h x (by simp),h i (by simp),h y (by simp)]
 case call c =>
  have ha:∀ x∈c.args,ρ x = ρ' x:=fun x hx=>h x (by simp [Call.operands,hx])
  have hm:=yCay ha
  simp only
  cases hc:c.callee with
  | invoke r n=>rfl
  | value f =>
   have hf:ρ f = ρ' f:=h f (by simp [Call.operands,hc])
   simp only [hf,hm]
  | builtin b =>
   cases b <;> simp only
   case append=>split <;> (try rfl);rename_i s x _ _ heq _;simp only [ha s (by rw [← Array.mem_toList_iff,heq];simp),ha x (by rw [← Array.mem_toList_iff,heq];simp)]
   case len=>split <;> (try rfl);rename_i x _ heq _;simp only [ha x (by rw [← Array.mem_toList_iff,heq];simp)]
   case clear=>split <;> (try rfl);rename_i x _ heq _;simp only [ha x (by rw [← Array.mem_toList_iff,heq];simp)]
   case delete=>split <;> (try rfl);rename_i x y _ _ heq _;simp only [ha x (by rw [← Array.mem_toList_iff,heq];simp),ha y (by rw [← Array.mem_toList_iff,heq];simp)]
   case max =>
    cases hx:c.args.toList with
    | nil=>rfl
    | cons x r=>rw [hx] at hm;simp only [List.map_cons,List.cons.injEq] at hm;simp only [hm.1,hm.2]
   case min =>
    cases hx:c.args.toList with
    | nil=>rfl
    | cons x r=>rw [hx] at hm;simp only [List.map_cons,List.cons.injEq] at hm;simp only [hm.1,hm.2]
theorem ytdy {look look':Nat→Option (Ob A)} (hm:∀ t ob,look t = some ob→look' t = some ob) {x:AV A} (h:ybsy look x = true):ybsy look' x = true:=by
 have hs:∀ t,(look t).isSome = true→(look' t).isSome = true:=fun t ht=>by
  obtain ⟨ob,ho⟩:=Option.isSome_iff_exists.1 ht
  rw [hm t ob ho];rfl
 cases x <;> simp only [ybsy,oneB] at h ⊢ <;> first | exact hs _ h | exact h | (rename_i d;cases d <;> exact h)
theorem ykCy {look look':Nat→Option (Ob A)} (hm:∀ t ob,look t = some ob→look' t = some ob) {place:Nat→Option (Nat×Nat)}:∀ {parts:List (Nat×AV A)} {cs cs':List (AV A)},
  fillS look place cs parts = some cs'→fillS look' place cs parts = some cs'
 | [],cs,cs',h=>by simpa [fillS] using h
 | (i,v)::r,cs,cs',h=>by
  simp only [fillS] at h ⊢
  cases hp:place i with
  | none=>simp [hp] at h
  | some p =>
   obtain ⟨off,size⟩:=p
   simp only [hp] at h ⊢
   split at h
   ·rename_i hc
    rw [if_pos ⟨hc.1,hc.2.1,ytdy hm hc.2.2⟩]
    exact ykCy hm h
   ·cases h
theorem yuiy {look look':Nat→Option (Ob A)} (hm:∀ t ob,look t = some ob→look' t = some ob) {t:TypeId} {parts:List (Nat×AV A)} {cs:List (AV A)}
  (h:ychy E.P look t parts = some cs):ychy E.P look' t parts = some cs:=by
 unfold ychy at h ⊢
 split at h
 ·split at h
  ·exact ykCy hm h
  ·cases h
 ·split at h
  ·exact ykCy hm h
  ·cases h
 ·cases h
theorem yqXy {look look':Nat→Option (Ob A)} {o:Oper} {p:O3 A} (hl:yf6y o.op = true) (hm:ykny o.op = true→∀ t ob,look t = some ob→look' t = some ob)
  (hu:p.2.1 = []) (h:opK E look ρ ret3 o = some p):opK E look' ρ ret3 o = some p:=by
 unfold opK at h ⊢
 cases ho:o.op <;> rw [ho] at hl hm <;> simp only [yf6y] at hl <;> (try cases hl) <;> simp only [ho] at h ⊢ <;> (try exact h) <;> replace hm:=hm rfl
 case build t ps =>
  cases hb:ychy E.P look t (ps.toList.map fun p=>(p.1,ρ p.2)) with
  | none=>simp [hb] at h
  | some cs=>rw [yuiy E hm hb];rwa [hb] at h
 case nilCheck x =>
  cases hx:ρ x <;> simp only [hx] at h ⊢ <;> (try exact h) <;> (try (rename_i d;cases d <;> exact h))
  case ptr t off=>cases hg:look t with
   | none=>simp [hg] at h
   | some ob=>rw [hm t ob hg];rwa [hg] at h
  case elp e t i off=>cases hg:look t with
   | none=>simp [hg] at h
   | some ob=>rw [hm t ob hg];rwa [hg] at h
 case load t a =>
  cases hx:ρ a <;> simp only [hx] at h ⊢ <;> (try exact h)
  case ptr t off=>cases hg:look t with
   | none=>simp [hg] at h
   | some ob=>rw [hm t ob hg];rwa [hg] at h
  case elp e t i off=>cases hg:look t with
   | none=>simp [hg] at h
   | some ob=>rw [hm t ob hg];rwa [hg] at h
 case fieldAddr s x f =>
  cases hf:ydLy E.P s f with
  | none=>simp [hf] at h
  | some q =>
   simp only [hf] at h ⊢
   cases hx:ρ x <;> simp only [hx] at h ⊢ <;> (try exact h) <;> (try (rename_i d;cases d <;> exact h))
   case ptr t off=>cases hg:look t with
    | none=>simp [hg] at h
    | some ob=>rw [hm t ob hg];rwa [hg] at h
   case elp e t i off=>cases hg:look t with
    | none=>simp [hg] at h
    | some ob=>rw [hm t ob hg];rwa [hg] at h
 case slice t x lo hi mx =>
  cases mx with
  | some m=>simp at h
  | none =>
   cases hx:ρ x <;> simp only [hx] at h ⊢ <;> (try exact h) <;> (try (rename_i d;cases d <;> exact h))
   case own e t=>cases hg:look t with
    | none=>exfalso;rw [hg] at h;split at h <;> cases h
    | some ob =>
     rw [hg] at h
     rw [hm t ob hg]
     split at h
     ·exfalso
      split at h
      ·split at h
       ·replace h:=yvvy h
        cases h
        cases hu
       ·cases h
      ·cases h
     ·exact h
     ·exact h
 case lookup t x i ok =>
  cases hk:mapT E.P E.T t with
  | none=>simp [hk] at h
  | some ke =>
   obtain ⟨ki,e⟩:=ke
   simp only [hk] at h ⊢
   cases hx:ρ x <;> simp only [hx] at h ⊢ <;> (try cases h)
   case mp tg=>cases hg:look tg with
    | none=>simp [hg] at h
    | some ob=>rw [hm tg ob hg];rwa [hg] at h
 case indexAddr t x i =>
  split at h
  ·rename_i e n _ _ he hi
   split at h
   ·rename_i hc
    rw [if_pos hc]
    cases hx:ρ x <;> simp only [hx] at h ⊢ <;> (try exact h) <;> (try (rename_i d;cases d <;> exact h))
    case own e t=>cases hg:look t with
     | none=>simp [hg] at h
     | some ob=>rw [hm t ob hg];rwa [hg] at h
    case vw e t lo hi=>cases hg:look t with
     | none=>simp [hg] at h
     | some ob=>rw [hm t ob hg];rwa [hg] at h
   ·cases h
  ·cases h
 case call c =>
  cases hc:c.callee with
  | invoke r n=>simp [hc] at hl
  | value f=>simp [hc] at hl
  | builtin b =>
   rw [hc] at hl
   cases b <;> simp only [yCvy] at hl <;> (try cases hl)
   case builtin.max.intro=>simp only [hc] at h ⊢;exact h
   case builtin.min.intro=>simp only [hc] at h ⊢;exact h
   simp only [hc] at h ⊢
   split at h
   ·rename_i x t _ _
    have hlen:∀ q,lenAV look (ρ x) = some q→lenAV look' (ρ x) = some q:=by
     intro q hq
     cases hx:ρ x <;> simp only [hx,lenAV] at hq ⊢ <;> (try exact hq) <;> (try (rename_i d;cases d <;> exact hq))
     case own e t=>cases hg:look t with
      | none=>simp [hg] at hq
      | some ob=>rw [hm t ob hg];rwa [hg] at hq
     case vw e t lo hi=>cases hg:look t with
      | none=>simp [hg] at hq
      | some ob=>rw [hm t ob hg];rwa [hg] at hq
     case mp t=>cases hg:look t with
      | none=>simp [hg] at hq
      | some ob=>rw [hm t ob hg];rwa [hg] at hq
    cases hq:lenAV look (ρ x) with
    | none=>simp [hq] at h
    | some q=>rw [hlen q hq];rwa [hq] at h
   ·cases h
end Go.Am
