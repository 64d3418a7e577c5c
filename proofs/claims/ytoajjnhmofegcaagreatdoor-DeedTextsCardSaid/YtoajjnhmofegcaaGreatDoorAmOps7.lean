/- Part of an abstract machine for this program, with its soundness: AmOps7. No condition: lemmas for the claim. -/
import Derived.Test.YtoajjnhmofegcaaGreatDoorAmOps5
import Derived.MapKept
set_option linter.unusedVariables false
set_option linter.unusedSimpArgs false
namespace Go.Am
open Go
variable {A:Nat→Type}
variable {T:Ty A} {w0 w w':World} {F0:List Nat} {X:Nat→Prop} {γ γ':Nat→Value} {φ φ':Nat→List Nat} {av av':Nat→Prop} {tmps:Array Value} {S S':St A} {R:Type} {P:Program}
variable {k:AV A→Upd A→List Nat→Option R} {res:R}
theorem yb9y.push {es:Array MapEntry} {clock:Nat} (h:yb9y es clock) (kv yv:Value):yb9y (es.push { key:=kv,val:=yv,born:=clock }) (clock + 1):=by
 refine ⟨?_,fun x hx=>?_⟩
 ·rw [Array.toList_push,List.map_append,List.nodup_append]
  refine ⟨h.1,by simp,fun a ha b hb=>?_⟩
  obtain ⟨x,hx,rfl⟩:=List.mem_map.1 ha
  have:=h.2 x hx
  simp only [List.map_cons,List.map_nil,List.mem_singleton] at hb
  omega
 ·rw [Array.toList_push] at hx
  rcases List.mem_append.1 hx with hx | hx
  ·exact Nat.lt_succ_of_lt (h.2 x hx)
  ·simp only [List.mem_singleton] at hx;subst hx;exact Nat.lt_succ_self _
theorem yb9y.modify {es:Array MapEntry} {clock:Nat} (h:yb9y es clock) (n:Nat) (f:MapEntry→MapEntry) (hf:∀ e,(f e).born = e.born):yb9y (es.modify n f) clock:=by
 have key:∀ (l:List MapEntry) (n:Nat),(l.modify n f).map (·.born) = l.map (·.born):=by
  intro l
  induction l with
  | nil=>intro n;simp
  | cons x l ih=>intro n;cases n with
   | zero=>simp [hf]
   | succ n=>simp [ih]
 have e1:(es.modify n f).toList = es.toList.modify n f:=by simp
 refine ⟨by rw [e1,key];exact h.1,fun x hx=>?_⟩
 have:x.born∈((es.modify n f).toList).map (·.born):=List.mem_map.2 ⟨x,hx,rfl⟩
 rw [e1,key] at this
 obtain ⟨y,hy,e⟩:=List.mem_map.1 this
 rw [← e];exact h.2 y hy
theorem yb9y.erase {es:Array MapEntry} {clock:Nat} (h:yb9y es clock) (n:Nat):yb9y (es.eraseIdxIfInBounds n) clock:=by
 have e1:(es.eraseIdxIfInBounds n).toList = es.toList.eraseIdx n:=by simp
 have hs:((es.eraseIdxIfInBounds n).toList).Sublist es.toList:=by rw [e1];exact List.eraseIdx_sublist ..
 exact ⟨h.1.sublist (hs.map _),fun x hx=>h.2 x (hs.subset hx)⟩
def KeyOk (P:Program) (T:Ty A) (k:Nat):Prop:=∀ x p:A k,eqT P 64 k (yaWy T k x) (yaWy T k p) = some (eqDs (T.enc k x) (T.enc k p))
theorem ypay {k e k' e':Nat} {m:List (A k×A e)} {m':List (A k'×A e')} (h:castM m = some m'):∃ (h1:k = k') (h2:e = e'),m' = h1 ▸ h2 ▸ m:=by
 unfold castM at h
 split at h
 ·rename_i hh;cases h;exact ⟨hh.1,hh.2,rfl⟩
 ·cases h
theorem ydKy (hok:TyOk P T) {e:Nat} {x:A e} {v:Value} (look:Nat→Option (Ob A)) (h:yaNy T w av e x v):RAV T w av look γ (yaWy T e x) v:=by
 obtain ⟨us,h1,h2,h3⟩:=h
 have hl:=hok.len e x
 unfold yaWy
 unfold packV at h2
 cases ha:T.agg e with
 | true =>
  rw [ha] at h2
  simp only at h2 ⊢
  subst h2
  simp only [RAV]
  refine ⟨us,rfl,RAVs.of_cells (by simp;omega) (fun j a hj=>?_)⟩
  rw [List.getElem?_map] at hj
  cases hd:(T.enc e x)[j]? with
  | none=>simp [hd] at hj
  | some d =>
   simp [hd] at hj
   subst hj
   obtain ⟨u,hu,hr⟩:=h3 j d hd
   exact ⟨u,by simpa using hu,by simpa only [RAV] using hr⟩
 | false =>
  rw [ha] at h2
  simp only at h2
  subst h2
  cases he:T.enc e x with
  | nil=>simp [RAV]
  | cons d r =>
   cases r with
   | cons _ _=>simp [RAV]
   | nil =>
    simp only [RAV]
    obtain ⟨u,hu,hr⟩:=h3 0 d (by rw [he];rfl)
    simp at hu
    subst hu
    exact hr
theorem yomy {look:Nat→Option (Ob A)}:∀ {cs:List (AV A)} {ds:List (D A)} {vs:List Value},yf4y cs = some ds→RAVs T w av look γ cs vs→ds.length = vs.length∧∀ (j:Nat) d,ds[j]? = some d→∃ u,vs[j]? = some u∧DR T w av d u
 | [],ds,vs,h,hr=>by simp only [yf4y] at h;cases h;simp only [RAVs] at hr;subst hr;simp
 | c::cs,ds,vs,h,hr=>by
  cases c <;> simp only [yf4y] at h <;> try (cases h;done)
  rename_i d
  cases hp:yf4y cs with
  | none=>simp [hp] at h
  | some ds' =>
   simp [hp] at h
   subst h
   simp only [RAVs] at hr
   obtain ⟨v,vs',rfl,h1,h2⟩:=hr
   obtain ⟨h3,h4⟩:=yomy hp h2
   refine ⟨by simp [h3],fun j d' hj=>?_⟩
   cases j with
   | zero=>simp at hj;subst hj;exact ⟨v,rfl,by simpa only [RAV] using h1⟩
   | succ j=>simpa using h4 j d' (by simpa using hj)
theorem yhyy (hok:TyOk P T) {look:Nat→Option (Ob A)} {e:Nat} {x:A e} {a:AV A} {v:Value} (h:yePy T e a = some x) (hr:RAV T w av look γ a v):yaNy T w av e x v:=by
 unfold yePy at h
 split at h
 ·rename_i cs ha
  cases hp:yf4y cs with
  | none=>simp [hp] at h
  | some ds =>
   simp [hp] at h
   simp only [RAV] at hr
   obtain ⟨vs,rfl,hvs⟩:=hr
   obtain ⟨h1,h2⟩:=yomy hp hvs
   obtain ⟨h3,h4⟩:=hok.dec e _ _ h
   refine ⟨vs,by simp at h1;omega,by unfold packV;rw [ha],fun j d hj=>?_⟩
   have hj':j < ds.length:=by
    rcases Nat.lt_or_ge j ds.length with hh | hh
    ·exact hh
    ·have:=hok.len e x
     rw [List.getElem?_eq_none (by omega)] at hj;cases hj
   obtain ⟨d',hd',himp⟩:=h4 w av j _ (List.getElem?_eq_getElem hj')
   rw [hj] at hd'
   cases hd'
   obtain ⟨u,hu,hdr⟩:=h2 j _ (List.getElem?_eq_getElem hj')
   exact ⟨u,by simpa using hu,himp u hdr⟩
 ·rename_i d ha
  simp only [RAV] at hr
  obtain ⟨h3,h4⟩:=hok.dec e _ _ h
  refine ⟨#[v],by simp at h3 ⊢;omega,by unfold packV;rw [ha],fun j d' hj=>?_⟩
  cases j with
  | zero =>
   obtain ⟨d'',hd',himp⟩:=h4 w av 0 d rfl
   rw [hj] at hd'
   cases hd'
   exact ⟨v,rfl,himp v hr⟩
  | succ j =>
   have:=hok.len e x
   rw [List.getElem?_eq_none (by simp at h3;omega)] at hj;cases hj
 ·cases h
theorem yxby {d:TypeDesc} {t:TypeId} (hu:P.underlying t = some d) {u v:Value} {b:Bool} (h:Instr.sameNow d u v = some b):(Op.equal t u v).run P w = .ok b w:=by
 unfold Instr.sameNow at h
 split at h
 ·rename_i k0 k a k' a'
  split at h
  ·rename_i hk
   cases h
   subst hk
   exact run_equalIn_int w 9999 t _ _ _ _ hu
  ·cases h
 ·cases h
  rw [beq_toListBytes]
  exact run_equalIn_string w 9999 t _ _ hu
 ·cases h
  exact run_equalIn_bool' w 9999 t _ _ hu
 ·cases h
theorem yr1y:∀ {as bs:List (D A)} {us vs:List Value},eqDs as bs = true→as.length = us.length→bs.length = vs.length→(∀ (j:Nat) d,as[j]? = some d→∃ u,us[j]? = some u∧DR T w av d u)→(∀ (j:Nat) d,bs[j]? = some d→∃ u,vs[j]? = some u∧DR T w av d u) →
  us.length = vs.length∧∀ n,((vs.zip us).all fun (x,y)=>Instr.sameBits n x y) = true
 | [],[],us,vs,h,h1,h2,_,_=>by
  have e1:us = []:=List.eq_nil_of_length_eq_zero (by simpa using h1.symm)
  have e2:vs = []:=List.eq_nil_of_length_eq_zero (by simpa using h2.symm)
  subst e1 e2
  simp
 | [],_::_,_,_,h,_,_,_,_=>by simp [eqDs] at h
 | _::_,[],_,_,h,_,_,_,_=>by simp [eqDs] at h
 | a::as,b::bs,us,vs,h,h1,h2,h3,h4=>by
  cases us with
  | nil=>simp at h1
  | cons u us =>
   cases vs with
   | nil=>simp at h2
   | cons v vs =>
    simp only [eqDs,Bool.and_eq_true] at h
    obtain ⟨h5,h6⟩:=h
    obtain ⟨i1,i2⟩:=yr1y (us:=us) (vs:=vs) h6 (by simpa using h1) (by simpa using h2) (fun j d hj=>by simpa using h3 (j + 1) d (by simpa using hj)) (fun j d hj=>by simpa using h4 (j + 1) d (by simpa using hj))
    refine ⟨by simp [i1],fun n=>?_⟩
    simp only [List.zip_cons_cons,List.all_cons,i2,Bool.and_true]
    obtain ⟨u',hu,hr⟩:=h3 0 a rfl
    obtain ⟨v',hv,hs⟩:=h4 0 b rfl
    simp at hu hv
    subst hu hv
    unfold eqD at h5
    split at h5
    ·simp only [Bool.and_eq_true,decide_eq_true_eq,beq_iff_eq] at h5
     obtain ⟨rfl,rfl⟩:=h5
     rw [DR.int] at hr hs
     subst hr hs
     cases n <;> simp [Instr.sameBits]
    ·simp only [beq_iff_eq] at h5
     subst h5
     rw [DR.bool] at hr hs
     subst hr hs
     cases n <;> simp [Instr.sameBits]
    ·simp only [beq_iff_eq] at h5
     subst h5
     rw [DR.str] at hr hs
     subst hr hs
     have:∀ x:ByteArray,(x == x) = true:=fun x=>by rw [beq_toListBytes];simp
     cases n <;> simp [Instr.sameBits,this]
    ·cases h5
theorem yBJy (hok:TyOk P T) {k:Nat} {x p:A k} {u v:Value} (h:eqDs (T.enc k x) (T.enc k p) = true) (hu:yaNy T w av k x u) (hv:yaNy T w av k p v):Instr.sameBits 10000 v u = true:=by
 obtain ⟨us,h1,h2,h3⟩:=hu
 obtain ⟨vs,g1,g2,g3⟩:=hv
 have l1:=hok.len k x
 have l2:=hok.len k p
 obtain ⟨i1,i2⟩:=yr1y (us:=us.toList) (vs:=vs.toList) h (by simp;omega) (by simp;omega) (fun j d hj=>by obtain ⟨u,hu,hr⟩:=h3 j d hj;exact ⟨u,by simpa using hu,hr⟩) (fun j d hj=>by obtain ⟨u,hu,hr⟩:=g3 j d hj;exact ⟨u,by simpa using hu,hr⟩)
 unfold packV at h2 g2
 cases ha:T.agg k with
 | true =>
  rw [ha] at h2 g2
  simp only at h2 g2
  subst h2 g2
  have hs:vs.size = us.size:=by simpa using i1.symm
  simp only [Instr.sameBits,hs,beq_self_eq_true,Bool.true_and]
  exact i2 9999
 | false =>
  rw [ha] at h2 g2
  simp only at h2 g2
  subst h2 g2
  simpa using i2 10000
theorem yFmy (E:Env A) (hok:TyOk E.P E.T) (h:Rel E.T w0 F0 X γ φ av w tmps S) {k:Nat} (hk:KeyOk E.P E.T k) {x p:A k} {u v:Value} (hu:yaNy E.T w av k x u) (hv:yaNy E.T w av k p v) :
  (Op.equal k u v).run E.P w = .ok (eqDs (E.T.enc k x) (E.T.enc k p)) w :=
 (ysqy E h 64).1 k _ _ u v _ 10000 (by omega) (ydKy hok S.look hu) (ydKy hok S.look hv) (hk x p)
theorem yrdy {α:Type} (f:α→PUnit→Sem (ForInStep PUnit)):∀ (l:List α),(∀ x∈l,(f x ⟨⟩).run P w = .ok (.yield ⟨⟩) w)→(forIn l PUnit.unit f).run P w = .ok ⟨⟩ w
 | [],h=>by simp [forIn]
 | x::l,h=>by
  rw [List.forIn_cons]
  simp only [Sem.run_bind,h x (by simp),Result.andThen_ok]
  exact yrdy f l (fun y hy=>h y (by simp [hy]))
theorem yxJy {xs ys:List (AV A)}:∀ {n:Nat} {fs:List Field} {b:Bool},eqF P n fs xs ys = some b→∀ f∈fs,∃ m a b' r,m < n∧f.name ≠ "_" ∧ ybUy P f.type xs f.offset = some a∧eqT P m f.type a b' = some r
 | 0,fs,b,h=>by simp [eqF] at h
 | n + 1,[],b,h=>by simp
 | n + 1,f::fs,b,h=>by
  simp only [eqF] at h
  split at h
  ·cases h
  ·rename_i hname
   cases ha:ybUy P f.type xs f.offset with
   | none=>simp [ha] at h
   | some a =>
    cases hb:ybUy P f.type ys f.offset with
    | none=>simp [ha,hb] at h
    | some b' =>
     simp only [ha,hb] at h
     cases h1:eqT P n f.type a b' with
     | none=>simp [h1] at h
     | some r =>
      cases h2:eqF P n fs xs ys with
      | none=>simp [h1,h2] at h
      | some r2 =>
       intro g hg
       rcases List.mem_cons.1 hg with rfl | hg
       ·exact ⟨n,a,b',r,by omega,hname,ha,h1⟩
       ·obtain ⟨m,a,b',r,i1,i2,i3,i4⟩:=yxJy h2 g hg
        exact ⟨m,a,b',r,by omega,i2,i3,i4⟩
theorem yDsy {look:Nat→Option (Ob A)} {t off:Nat} {xs:List (AV A)} {us:Array Value} {a:AV A} (hx:RAVs T w av look γ xs us.toList) (ha:ybUy P t xs off = some a) :
  ∃ u,(part t us off).run P w = .ok u w∧RAV T w av look γ a u:=by
 unfold ybUy at ha
 cases hq:partL P t xs off with
 | none=>simp [hq] at ha
 | some p =>
  simp [hq] at ha
  obtain ⟨u,hu',hm⟩:=ypby (w:=w) hq (by have:=hx.len;simpa using this) (RAV T w av look γ) (fun j x hj=>by obtain ⟨u,hu,hr⟩:=hx.at j x hj;exact ⟨u,by simpa using hu,hr⟩)
  refine ⟨u,hu',?_⟩
  obtain ⟨l,bb⟩:=p
  cases bb with
  | true =>
   obtain ⟨vs,rfl,hl,hx⟩:=hm
   subst ha
   simp only [packL,RAV]
   exact ⟨vs,rfl,RAVs.of_cells (by simpa using hl) (fun j x hj=>by simpa using hx j x hj)⟩
  | false =>
   obtain ⟨x,hl,hx⟩:=hm
   simp only at hl
   subst hl ha
   simpa [packL] using hx
theorem ymYy {look:Nat→Option (Ob A)} (em:Bool):∀ n t (x y:AV A) u b d,n≤d→RAV T w av look γ x u→eqT P n t x y = some b→(Instr.checkKey em d t u).run P w = .ok () w:=by
 intro n
 induction n using Nat.strongRecOn with
 | ind n ih =>
  intro t x y u b d hd hx he
  cases n with
  | zero=>simp [eqT] at he
  | succ n =>
   obtain ⟨d,rfl⟩:∃ m,d = m + 1:=⟨d - 1,by omega⟩
   simp only [eqT] at he
   cases hu:P.underlying t with
   | none=>simp [hu] at he
   | some td =>
    rw [hu] at he
    have hone:eqOne td x y = some b→(Instr.checkKey em (d + 1) t u).run P w = .ok () w:=by
     intro ho
     unfold eqOne at ho
     split at ho
     ·simp only [RAV,DR.int] at hx
      subst hx
      simp [Instr.checkKey,run_underlying hu]
     ·simp only [RAV,DR.bool] at hx
      subst hx
      simp [Instr.checkKey,run_underlying hu]
     ·simp only [RAV,DR.str] at hx
      subst hx
      simp [Instr.checkKey,run_underlying hu]
     ·cases ho
    cases td <;> (try dsimp only at he) <;> try (exact hone he)
    rename_i fs
    cases x <;> (try dsimp only at he) <;> try (exact hone he)
    cases y <;> (try dsimp only at he) <;> try (exact hone he)
    split at he
    ·cases he
    ·simp only [RAV] at hx
     obtain ⟨us,rfl,hus⟩:=hx
     simp only [Instr.checkKey,Sem.run_bind,run_underlying hu,Result.andThen_ok]
     rw [← Array.forIn_toList]
     rw [yrdy]
     ·rfl
     ·intro f hf
      obtain ⟨m,a,b',r,i1,i2,i3,i4⟩:=yxJy he f hf
      obtain ⟨u',h1,h2⟩:=yDsy (w:=w) hus i3
      have:=ih m (by omega) f.type a b' u' r d (by omega) h2 i4
      simp [i2,h1,this]
def posM (T:Ty A) (k e:Nat) (x:A k):List (A k×A e)→Option Nat
 | []=>none
 | p::ps=>bif eqDs (T.enc k x) (T.enc k p.1) then some 0 else (posM T k e x ps).map (· + 1)
def Ans (es:List MapEntry) (p:Option Nat) (i:Nat) (q:Option (Nat×Value)):Prop :=
 match p with
 | none=>q = none
 | some n=>∃ e,es[n]? = some e∧q = some (i + n,e.val)
theorem yvky (E:Env A) (hok:TyOk E.P E.T) (h:Rel E.T w0 F0 X γ φ av w tmps S) {k e:Nat} (hk:KeyOk E.P E.T k) {kd:TypeDesc} (hkd:E.P.underlying k = some kd) {x:A k} {u:Value} (hu:yaNy E.T w av k x u) :
  ∀ (es:List MapEntry) (m:List (A k×A e)) (i:Nat),yaBy E.T w av k e es m →
   (∃ q,(Instr.findAsking k u es i).run E.P w = .ok q w∧Ans es (posM E.T k e x m) i q)∧∀ q,Instr.findNow kd u es i = some q→Ans es (posM E.T k e x m) i q
 | [],[],i,hm=>⟨⟨none,by simp [Instr.findAsking],rfl⟩,fun q hq=>by simp only [Instr.findNow] at hq;cases hq;rfl⟩
 | [],_::_,i,hm=>hm.elim
 | _::_,[],i,hm=>hm.elim
 | en::es,p::ps,i,hm=>by
  obtain ⟨h1,h2,h3⟩:=hm
  obtain ⟨⟨q,i1,i2⟩,i3⟩:=yvky E hok h hk hkd hu es ps (i + 1) h3
  have hkr:=yFmy E hok h hk hu h1
  have lift:∀ q,Ans es (posM E.T k e x ps) (i + 1) q→Ans (en::es) ((posM E.T k e x ps).map (· + 1)) i q:=by
   intro q hq
   unfold Ans at hq ⊢
   cases hp:posM E.T k e x ps with
   | none=>rw [hp] at hq;simpa using hq
   | some n =>
    rw [hp] at hq
    obtain ⟨e',a1,a2⟩:=hq
    exact ⟨e',by simpa using a1,by rw [a2];simp;omega⟩
  refine ⟨?_,fun q hq=>?_⟩
  ·simp only [Instr.findAsking,Sem.run_bind,hkr,Result.andThen_ok,posM]
   cases hb:eqDs (E.T.enc k x) (E.T.enc k p.1) with
   | true=>exact ⟨some (i,en.val),by simp,by simp [Ans]⟩
   | false=>exact ⟨q,by simp [i1],by simpa using lift q i2⟩
  ·simp only [Instr.findNow] at hq
   simp only [posM]
   cases hs:Instr.sameNow kd u en.key with
   | none=>simp [hs] at hq
   | some b =>
    have:=yxby (w:=w) hkd hs
    rw [hkr] at this
    simp only [Result.ok.injEq,and_true] at this
    rw [this]
    cases b with
    | true=>simp [hs] at hq;subst hq;simp [Ans]
    | false=>simp [hs] at hq;simpa using lift q (i3 q hq)
theorem yjjy (E:Env A) (hok:TyOk E.P E.T) (h:Rel E.T w0 F0 X γ φ av w tmps S) {k e:Nat} (hk:KeyOk E.P E.T k) {kd:TypeDesc} (hkd:E.P.underlying k = some kd) {x:A k} {u:Value} (hu:yaNy E.T w av k x u)
  {es:List MapEntry} {m:List (A k×A e)} (hm:yaBy E.T w av k e es m):∃ q,(Instr.findKey k u es).run E.P w = .ok q w∧Ans es (posM E.T k e x m) 0 q:=by
 obtain ⟨⟨q,h1,h2⟩,h3⟩:=yvky E hok h hk hkd hu es m 0 hm
 unfold Instr.findKey
 simp only [Sem.run_bind,run_underlying hkd,Result.andThen_ok]
 cases hn:Instr.findNow kd u es 0 with
 | none=>exact ⟨q,h1,h2⟩
 | some r=>exact ⟨r,rfl,h3 r hn⟩
theorem yvFy {k e:Nat} {x:A k}:∀ {es:List MapEntry} {m:List (A k×A e)},yaBy T w av k e es m →
  match posM T k e x m with
  | none=>getM T k e x m = none
  | some n=>∃ en y,es[n]? = some en∧getM T k e x m = some y∧yaNy T w av e y en.val
 | [],[],_=>rfl
 | [],_::_,hm=>hm.elim
 | _::_,[],hm=>hm.elim
 | en::es,p::ps,hm=>by
  obtain ⟨h1,h2,h3⟩:=hm
  have ih:=yvFy (x:=x) h3
  simp only [posM,getM]
  cases eqDs (T.enc k x) (T.enc k p.1) with
  | true=>exact ⟨en,p.2,rfl,rfl,h2⟩
  | false =>
   simp only [cond_false]
   cases hp:posM T k e x ps with
   | none=>rw [hp] at ih;simpa using ih
   | some n=>rw [hp] at ih;obtain ⟨en',y,a1,a2,a3⟩:=ih;exact ⟨en',y,by simpa using a1,a2,a3⟩
theorem yuxy {k e:Nat} {x:A k} {y:A e} {kv yv:Value} (hx:yaNy T w av k x kv) (hy:yaNy T w av e y yv):∀ {es:List MapEntry} {m:List (A k×A e)},yaBy T w av k e es m →
  match posM T k e x m with
  | none=>∀ n,yaBy T w av k e (es++[{ key:=kv,val:=yv,born:=n }]) (setM T k e x y m)
  | some n=>∃ en p,es[n]? = some en∧yaNy T w av k p en.key∧eqDs (T.enc k x) (T.enc k p) = true∧yaBy T w av k e (es.modify n fun e=>{ e with key:=kv,val:=yv }) (setM T k e x y m)
 | [],[],_=>fun n=>⟨hx,hy,trivial⟩
 | [],_::_,hm=>hm.elim
 | _::_,[],hm=>hm.elim
 | en::es,p::ps,hm=>by
  obtain ⟨h1,h2,h3⟩:=hm
  have ih:=yuxy hx hy h3
  simp only [posM,setM]
  cases hb:eqDs (T.enc k x) (T.enc k p.1) with
  | true =>
   simp only [cond_true]
   refine ⟨en,p.1,rfl,h1,hb,?_⟩
   rw [List.modify_zero_cons]
   exact ⟨hx,hy,h3⟩
  | false =>
   simp only [cond_false]
   cases hp:posM T k e x ps with
   | none=>rw [hp] at ih;intro n;exact ⟨h1,h2,ih n⟩
   | some n =>
    rw [hp] at ih
    obtain ⟨en',p',a1,a2,a3,a4⟩:=ih
    refine ⟨en',p',by simpa using a1,a2,a3,?_⟩
    rw [List.modify_succ_cons]
    exact ⟨h1,h2,a4⟩
theorem yumy {k e:Nat} {x:A k}:∀ {es:List MapEntry} {m:List (A k×A e)},yaBy T w av k e es m →
  match posM T k e x m with
  | none=>delM T k e x m = m
  | some n=>yaBy T w av k e (es.eraseIdx n) (delM T k e x m)
 | [],[],_=>rfl
 | [],_::_,hm=>hm.elim
 | _::_,[],hm=>hm.elim
 | en::es,p::ps,hm=>by
  obtain ⟨h1,h2,h3⟩:=hm
  have ih:=yumy (x:=x) h3
  simp only [posM,delM]
  cases eqDs (T.enc k x) (T.enc k p.1) with
  | true=>exact h3
  | false =>
   simp only [cond_false]
   cases hp:posM T k e x ps with
   | none=>rw [hp] at ih;simp only at ih;simp only [Option.map_none,ih]
   | some n =>
    rw [hp] at ih
    simp only at ih
    simp only [Option.map_some,List.eraseIdx_cons_succ]
    exact ⟨h1,h2,ih⟩
theorem yrOy {t:TypeId} {k e:Nat} (h:mapT P T t = some (k,e)):P.underlying t = some (.map k e)∧T.agg k = aggT P k∧T.agg e = aggT P e∧T.size k = P.cellsOf k∧T.size e = P.cellsOf e:=by
 unfold mapT at h
 split at h
 ·split at h
  ·rename_i hu hh;cases h;exact ⟨hu,hh⟩
  ·cases h
 ·cases h
theorem yBWy (hok:TyOk P T) {e:Nat} {cs:List (AV A)} {zs:List (D A)} {z:A e} (hz:zeros P e = some cs) (hzd:ydUy cs = some zs) (hd:T.dec e zs = some z) (ha:T.agg e = aggT P e) :
  ∃ z0,(zeroValue e).run P w = .ok z0 w∧yaNy T w av e z z0:=by
 unfold zeros at hz
 unfold aggT at ha
 cases hi:P.info? e with
 | none=>simp [hi] at hz
 | some i =>
  cases hz':i.zero with
  | none=>simp [hi,hz'] at hz
  | some z0 =>
   simp [hi,hz'] at hz
   subst hz
   simp [hi,hz'] at ha
   refine ⟨z0,by simp [zeroValue,typeInfo,hi,hz'],z0.cells,?_,?_,?_⟩
   ·have h1:=(hok.dec e _ _ hd).1
    have h2:=(ydGy (T:=T) (w:=w) (av:=av) (look:=fun _=>none) hzd).1
    simp at h2
    omega
   ·unfold packV
    rw [ha]
    cases z0 <;> rfl
   ·intro j d hj
    obtain ⟨h1,h2⟩:=ydGy (T:=T) (w:=w) (av:=av) (look:=fun _=>none) hzd
    obtain ⟨h3,h4⟩:=hok.dec e _ _ hd
    have hj':j < zs.length:=by
     rcases Nat.lt_or_ge j zs.length with hh | hh
     ·exact hh
     ·have:=hok.len e z
      rw [List.getElem?_eq_none (by omega)] at hj;cases hj
    obtain ⟨d',hd',himp⟩:=h4 w av j _ (List.getElem?_eq_getElem hj')
    rw [hj] at hd'
    cases hd'
    obtain ⟨u,hu,hdr⟩:=h2 j _ (List.getElem?_eq_getElem hj')
    exact ⟨u,by simpa using hu,himp u hdr⟩
theorem yzBy (E:Env A) (h:Rel E.T w0 F0 X γ φ av w tmps S) {o:Oper} {t:TypeId} {r:Option Operand} {ds:List Deferred} (ho:o.op = .makeMap t r)
  (hk:opK E S.look (yafy S.fr) k o = some res) (hf:∀ v u ts,k v u ts = some res→yazy S u = true):Did E.T w0 F0 X tmps S k res ((execOp (Act.eval ⟨tmps,ds⟩) o).run E.P w):=by
 unfold opK at hk
 simp only [ho] at hk
 unfold execOp
 simp only [ho]
 cases r with
 | some x=>simp at hk
 | none =>
  simp only at hk
  split at hk
  ·rename_i ki e tag hm ht
   have hno:=yc5y ht
   obtain ⟨hlt,hocc⟩:=ycJy (o:=.mp ki e []) (hf _ _ _ hk) (List.mem_singleton.2 rfl) hno
   obtain ⟨γ',φ',av',hR,hγ,hφ,hγn,_⟩:=h.new (w':=w.alloc (.map #[] 0)) hlt hno hocc (.mp ki e []) (.map (some w.heap.size)) (some w.heap.size) (by rw [yaQy];omega)
    (fun b hb=>ybdy w _ b hb) rfl ⟨rfl,fun _=>Nat.le_refl _⟩ rfl (fun b hb=>by cases hb;exact ⟨Nat.le_refl _,by rw [yaQy];omega⟩)
    (fun av' hav hp γ' φ' hγ hφ hγn=>by
     simp only [ROb,RIV]
     exact ⟨w.heap.size,#[],0,hγ,by rw [hφ];rfl,ycBy w _,trivial,by simp [yb9y]⟩)
   refine ⟨.map (some w.heap.size),w.alloc (.map #[] 0),.inl ?_,_,_,_,γ',φ',av',hk,hR,?_⟩
   ·simp [Instr.makeMap,-World.alloc_eq]
    rfl
   ·simp only [RAV]
    intro o' ho'
    have:(S.upd [(tag,some (.mp ki e []))]).look tag = some (.mp ki e []):=by
     show St.look { S with st:=S.st.set tag (some (.mp ki e [])) } tag = _
     rw [yayy,if_pos ⟨rfl,hlt⟩]
    rw [this] at ho'
    cases ho'
    exact ⟨hγ.symm,rfl⟩
  ·cases hk
theorem yA5y (E:Env A) (hok:TyOk E.P E.T) (hkey:∀ k,E.keyed k = true→KeyOk E.P E.T k∧∃ kd,E.P.underlying k = some kd) (h:Rel E.T w0 F0 X γ φ av w tmps S) {o:Oper} {t:TypeId} {x i:Operand} {ok:Bool} {ds:List Deferred} (ho:o.op = .lookup t x i ok)
  (hk:opK E S.look (yafy S.fr) k o = some res):Did E.T w0 F0 X tmps S k res ((execOp (Act.eval ⟨tmps,ds⟩) o).run E.P w):=by
 have hx:=h.eval ds x
 have hi:=h.eval ds i
 unfold opK at hk
 simp only [ho] at hk
 unfold execOp
 simp only [ho]
 generalize yafy S.fr x = vx at hk hx
 generalize Act.eval ⟨tmps,ds⟩ x = ux at hx
 generalize yafy S.fr i = vi at hk hi
 generalize Act.eval ⟨tmps,ds⟩ i = ui at hi
 split at hk
 ·rename_i ki e tg hm
  obtain ⟨hu,hak,hae,hsk,hse⟩:=yrOy hm
  split at hk
  ·rename_i k' e' m key zs hl hun hz
   split at hk
   ·rename_i m' z hcm hdz hkd
    obtain ⟨rfl,rfl,hmm⟩:=ypay hcm
    have hm2:m = m':=hmm.symm
    clear hmm hcm
    subst hm2
    obtain ⟨hko,kd,hkd'⟩:=hkey _ hkd
    simp only [RAV] at hx
    obtain ⟨hv,_⟩:=hx _ hl
    have hob:=h.ob tg _ hl
    simp only [ROb,RIV] at hob
    obtain ⟨b,es,clock,hg,hφ,hb,hmr,hst⟩:=hob
    have hpk:=yhyy hok hun hi
    obtain ⟨q,hq,hans⟩:=yjjy E hok h hko hkd' hpk hmr
    have hchk:(Instr.checkKey es.isEmpty 10000 k' ui).run E.P w = .ok () w:=ymYy es.isEmpty 64 _ _ _ _ _ 10000 (by omega) (ydKy (γ:=γ) hok S.look hpk) (hko key key)
    cases hzz:zeros (A:=A) E.P e' with
    | none=>simp [hzz] at hz
    | some cs =>
     simp [hzz] at hz
     obtain ⟨z0,hz0,hzp⟩:=yBWy (w:=w) (av:=av) hok hzz hz hdz hae
     have hpg:=yvFy (x:=key) hmr
     have hres:∃ v,(Instr.lookup t ux ui ok).run E.P w = .ok (if ok then .tuple #[v,.bool (getM E.T k' e' key m).isSome] else v) w∧yaNy E.T w av e' ((getM E.T k' e' key m).getD z) v:=by
      unfold Ans at hans
      cases hp:posM E.T k' e' key m with
      | none =>
       rw [hp] at hans hpg
       subst hans
       simp only at hpg
       refine ⟨z0,?_,by rw [hpg];exact hzp⟩
       simp [Instr.lookup,run_underlying hu,hv,hg,MapKept.run_getObj_map hb,hchk,hq,hz0,hpg]
      | some n =>
       rw [hp] at hans hpg
       obtain ⟨en,a1,rfl⟩:=hans
       obtain ⟨en',y,b1,b2,b3⟩:=hpg
       rw [a1] at b1
       cases b1
       refine ⟨en.val,?_,by rw [b2];exact b3⟩
       simp [Instr.lookup,run_underlying hu,hv,hg,MapKept.run_getObj_map hb,hchk,hq,b2]
     obtain ⟨v,h1,h2⟩:=hres
     have hrv:=ydKy (γ:=γ) hok S.look h2
     cases ok with
     | false =>
      simp only [cond_false] at hk
      exact yaty h hk (by simp [h1]) hrv
     | true =>
      simp only [cond_true] at hk
      refine yaty (u:=.tuple #[v,.bool (getM E.T k' e' key m).isSome]) h hk (by simp [h1]) ?_
      simp only [RAV,RAVs]
      exact ⟨_,rfl,v,_,rfl,hrv,_,_,rfl,by simp [DR.bool],rfl⟩
   ·cases hk
  ·cases hk
 ·cases hk
theorem ymIy (E:Env A) (hok:TyOk E.P E.T) (hkey:∀ k,E.keyed k = true→KeyOk E.P E.T k∧∃ kd,E.P.underlying k = some kd) (h:Rel E.T w0 F0 X γ φ av w tmps S) {o:Oper} {t:TypeId} {x i y:Operand} {ds:List Deferred} (ho:o.op = .mapUpdate t x i y)
  (hk:opK E S.look (yafy S.fr) k o = some res):Did E.T w0 F0 X tmps S k res ((execOp (Act.eval ⟨tmps,ds⟩) o).run E.P w):=by
 have hx:=h.eval ds x
 have hi:=h.eval ds i
 have hy:=h.eval ds y
 unfold opK at hk
 simp only [ho] at hk
 unfold execOp
 simp only [ho]
 generalize yafy S.fr x = vx at hk hx
 generalize Act.eval ⟨tmps,ds⟩ x = ux at hx
 generalize yafy S.fr i = vi at hk hi
 generalize Act.eval ⟨tmps,ds⟩ i = ui at hi
 generalize yafy S.fr y = vy at hk hy
 generalize Act.eval ⟨tmps,ds⟩ y = uy at hy
 split at hk
 ·rename_i ki e tg hm
  obtain ⟨hu,hak,hae,hsk,hse⟩:=yrOy hm
  split at hk
  ·rename_i k' e' m key val hl hun hunv
   split at hk
   ·rename_i m' hcm hkd
    obtain ⟨rfl,rfl,hmm⟩:=ypay hcm
    have hm2:m = m':=hmm.symm
    clear hmm hcm
    subst hm2
    obtain ⟨hko,kd,hkd'⟩:=hkey _ hkd
    simp only [RAV] at hx
    obtain ⟨hv,_⟩:=hx _ hl
    have hob:=h.ob tg _ hl
    simp only [ROb,RIV] at hob
    obtain ⟨b,es,clock,hg,hφ,hb,hmr,hst⟩:=hob
    have hpk:=yhyy hok hun hi
    have hpv:=yhyy hok hunv hy
    obtain ⟨q,hq,hans⟩:=yjjy E hok h hko hkd' hpk hmr
    have hchk:(Instr.checkKey false 10000 k' ui).run E.P w = .ok () w:=ymYy false 64 _ _ _ _ _ 10000 (by omega) (ydKy (γ:=γ) hok S.look hpk) (hko key key)
    have hblt:b < w.heap.size:=by
     rcases Nat.lt_or_ge b w.heap.size with hh | hh
     ·exact hh
     ·simp [Array.getElem?_eq_none hh] at hb
    have hps:=yuxy hpk hpv hmr
    have hres:∃ es' clock',(Instr.mapUpdate t ux ui uy).run E.P w = .ok () { w with heap:=w.heap.setIfInBounds b (.map es' clock') }∧yaBy E.T w av k' e' es'.toList (setM E.T k' e' key val m)∧yb9y es' clock':=by
     unfold Ans at hans
     cases hp:posM E.T k' e' key m with
     | none =>
      rw [hp] at hans hps
      subst hans
      refine ⟨es.push { key:=ui,val:=uy,born:=clock },clock + 1,?_,by simpa using hps clock,hst.push _ _⟩
      simp [Instr.mapUpdate,run_underlying hu,hv,hg,MapKept.run_getObj_map hb,hchk,hq,MapKept.run_setObj_map _ hb]
     | some n =>
      rw [hp] at hans hps
      obtain ⟨en,a1,rfl⟩:=hans
      obtain ⟨en',p,b1,b2,b3,b4⟩:=hps
      rw [a1] at b1
      cases b1
      have hsb:=yBJy hok b3 hpk b2
      have hstay:(Instr.keyThatStays en.key ui).run E.P w = .ok ui w:=by simp [Instr.keyThatStays,hsb]
      refine ⟨es.modify n fun e=>{ e with key:=ui,val:=uy },clock,?_,by simpa using b4,hst.modify _ _ (fun _=>rfl)⟩
      have a1':es[n]? = some en:=by simpa using a1
      simp [Instr.mapUpdate,run_underlying hu,hv,hg,MapKept.run_getObj_map hb,hchk,hq,MapKept.run_setObj_map _ hb,a1',hstay]
    obtain ⟨es',clock',h1,h2,h3⟩:=hres
    obtain ⟨γ',φ',hR,hγ',hφ',_,_⟩:=h.turn (w':={ w with heap:=w.heap.setIfInBounds b (.map es' clock') }) hl (ybgy hl) (fun e=>absurd rfl e) (.mp k' e' (setM E.T k' e' key val m)) (γ tg) (fun _=>⟨rfl,rfl⟩)
     (fun c hc=>by
      have:c≠b:=by rintro rfl;exact hc (by rw [hφ];simp)
      simp [Array.getElem?_setIfInBounds,Ne.symm this]) (by simp) rfl ⟨rfl,fun _=>Nat.le_refl _⟩ rfl
     (fun γ' φ' hp hγ' hφ' _ _=>by
      simp only [ROb,RIV]
      exact ⟨b,es',clock',by rw [hγ'];exact hg,by rw [hφ'];exact hφ,by simp [hblt],h2.mono hp,h3⟩)
    rw [ye0y] at hR
    exact ⟨undef,_,.inr ⟨by simp [h1],rfl⟩,_,_,_,γ',φ',av,hk,hR,trivial⟩
   ·cases hk
  ·cases hk
 ·cases hk
theorem yA0y (E:Env A) (hok:TyOk E.P E.T) (hkey:∀ k,E.keyed k = true→KeyOk E.P E.T k∧∃ kd,E.P.underlying k = some kd) (h:Rel E.T w0 F0 X γ φ av w tmps S) {o:Oper} {t:TypeId} {x i y:Operand} {ds:List Deferred} (ho:o.op = .insert t x i y)
  (hk:opK E S.look (yafy S.fr) k o = some res):Did E.T w0 F0 X tmps S k res ((execOp (Act.eval ⟨tmps,ds⟩) o).run E.P w):=by
 have e1:opK E S.look (yafy S.fr) k o = opK E S.look (yafy S.fr) k { o with op:=.mapUpdate t x i y }:=by
  unfold opK
  simp only [ho]
 have e2:execOp (Act.eval ⟨tmps,ds⟩) o = execOp (Act.eval ⟨tmps,ds⟩) { o with op:=.mapUpdate t x i y }:=by
  unfold execOp
  simp only [ho]
 rw [e2]
 exact ymIy E hok hkey h rfl (e1 ▸ hk)
theorem yy7y (E:Env A) (hok:TyOk E.P E.T) (hkey:∀ k,E.keyed k = true→KeyOk E.P E.T k∧∃ kd,E.P.underlying k = some kd) (h:Rel E.T w0 F0 X γ φ av w tmps S) {t ty:TypeId} {tg ki e:Nat} {m:List (A ki×A e)} {key:A ki} {vi:AV A} {ux ui:Value}
  (hx:RAV E.T w av S.look γ (.mp tg) ux) (hi:RAV E.T w av S.look γ vi ui) (hm:mapT E.P E.T t = some (ki,e)) (hl:S.look tg = some (.mp ki e m)) (hun:yePy E.T ki vi = some key) (hkd:E.keyed ki = true) (ats:Array TypeId) (hats:ats[0]? = some t) :
  ∃ w' γ' φ',(Builtin.delete_ ats ty #[ux,ui]).run E.P w = .ok (.tuple #[]) w'∧Rel E.T w0 F0 X γ' φ' av w' tmps (S.upd [(tg,some (.mp ki e (delM E.T ki e key m)))]):=by
 obtain ⟨hu,hak,hae,hsk,hse⟩:=yrOy hm
 obtain ⟨hko,kd,hkd'⟩:=hkey _ hkd
 simp only [RAV] at hx
 obtain ⟨hv,_⟩:=hx _ hl
 have hob:=h.ob tg _ hl
 simp only [ROb,RIV] at hob
 obtain ⟨b,es,clock,hg,hφ,hb,hmr,hst⟩:=hob
 have hpk:=yhyy hok hun hi
 obtain ⟨q,hq,hans⟩:=yjjy E hok h hko hkd' hpk hmr
 have hchk:(Instr.checkKey es.isEmpty 10000 ki ui).run E.P w = .ok () w:=ymYy es.isEmpty 64 _ _ _ _ _ 10000 (by omega) (ydKy (γ:=γ) hok S.look hpk) (hko key key)
 have hblt:b < w.heap.size:=by
  rcases Nat.lt_or_ge b w.heap.size with hh | hh
  ·exact hh
  ·simp [Array.getElem?_eq_none hh] at hb
 have hpd:=yumy (x:=key) hmr
 have hres:∃ es',(Builtin.delete_ ats ty #[ux,ui]).run E.P w = .ok (.tuple #[]) { w with heap:=w.heap.setIfInBounds b (.map es' clock) }∧yaBy E.T w av ki e es'.toList (delM E.T ki e key m)∧yb9y es' clock:=by
  unfold Ans at hans
  cases hp:posM E.T ki e key m with
  | none =>
   rw [hp] at hans hpd
   subst hans
   simp only at hpd
   refine ⟨es,?_,by rw [hpd];exact hmr,hst⟩
   simp [Builtin.delete_,hats,run_underlying hu,hv,hg,MapKept.run_getObj_map hb,hchk,hq,MapKept.run_setObj_map _ hb]
  | some n =>
   rw [hp] at hans hpd
   obtain ⟨en,a1,rfl⟩:=hans
   refine ⟨es.eraseIdxIfInBounds n,?_,by simpa using hpd,hst.erase _⟩
   simp [Builtin.delete_,hats,run_underlying hu,hv,hg,MapKept.run_getObj_map hb,hchk,hq,MapKept.run_setObj_map _ hb]
 obtain ⟨es',h1,h2,h3⟩:=hres
 obtain ⟨γ',φ',hR,hγ',hφ',_,_⟩:=h.turn (w':={ w with heap:=w.heap.setIfInBounds b (.map es' clock) }) hl (ybgy hl) (fun e=>absurd rfl e) (.mp ki e (delM E.T ki e key m)) (γ tg) (fun _=>⟨rfl,rfl⟩)
  (fun c hc=>by
   have:c≠b:=by rintro rfl;exact hc (by rw [hφ];simp)
   simp [Array.getElem?_setIfInBounds,Ne.symm this]) (by simp) rfl ⟨rfl,fun _=>Nat.le_refl _⟩ rfl
  (fun γ' φ' hp hγ' hφ' _ _=>by
   simp only [ROb,RIV]
   exact ⟨b,es',clock,by rw [hγ'];exact hg,by rw [hφ'];exact hφ,by simp [hblt],h2.mono hp,h3⟩)
 rw [ye0y] at hR
 exact ⟨_,γ',φ',h1,hR⟩
theorem yAIy (E:Env A) (hok:TyOk E.P E.T) (h:Rel E.T w0 F0 X γ φ av w tmps S) {e tg:Nat} {lo hi:Int} {xs:List (A e)} {u:Value} (hx:RAV E.T w av S.look γ (.vw e tg lo hi) u) (hl:S.look tg = some (.row e xs)) {t ty:TypeId}
  (hu:E.P.underlying t = some (.slice e)) {cs:List (AV A)} {ds:List (D A)} {z:A e} (hz:zeros E.P e = some cs) (hzd:ydUy cs = some ds) (hdec:E.T.dec e ds = some z) (h0:0≤lo) (h1:lo≤hi) (h2:hi.toNat≤xs.length) :
  ∃ w' γ' φ',(Builtin.clear_ #[t] ty #[u]).run E.P w = .ok (.tuple #[]) w'∧Rel E.T w0 F0 X γ' φ' av w' tmps (S.upd [(tg,some (.row e (xs.take lo.toNat++(List.replicate (hi - lo).toNat z++xs.drop hi.toNat))))]):=by
 simp only [RAV] at hx
 obtain ⟨⟨b,n',cap,pa,cap',hg,rfl,_,_,hpa⟩,_⟩:=hx _ hl
 have hob:=h.ob tg _ hl
 simp only [ROb,RIV] at hob
 obtain ⟨ob,hφ,hs,hrow⟩:=hob
 obtain ⟨z0,hrun,rfl⟩:=ygEy (w:=w) hz
 obtain ⟨hdl,hdr⟩:=ydGy (T:=E.T) (w:=w) (av:=av) (look:=S.look) hzd
 obtain ⟨hdl',hrep⟩:=hok.dec e _ _ hdec
 have hzsz:z0.cells.size = E.T.size e:=by rw [← hdl',hdl];simp
 have hpos:=hok.size e
 cases ob with
 | none=>simp only [OwnSl] at hs;rw [hs.2] at hg;simp at hg
 | some b' =>
  simp only [OwnSl] at hs
  obtain ⟨cap0,c,ty0,hv,hle,hc,hsz⟩:=hs
  have hbb:b' = b:=by rw [hg] at hv;simp only [Value.slice.injEq,Option.some.injEq,Addr.mk.injEq] at hv;exact hv.1.1.symm
  subst hbb
  obtain ⟨c',ty',hc',hrow'⟩:=hrow b' rfl
  rw [hc] at hc'
  cases hc'
  by_cases hlt:lo < hi
  ·obtain rfl:=hpa hlt
   obtain ⟨n,hn⟩:∃ n,(hi - lo).toNat = n + 1:=⟨(hi - lo).toNat - 1,by omega⟩
   let vs:List Value:=(Builtin.zeroCells z0.cells (hi - lo).toNat).toList
   have hvs:vs.length = (hi - lo).toNat * E.T.size e:=by simp [vs,Builtin.zeroCells,hzsz]
   have hget:∀ p,p < (hi - lo).toNat * E.T.size e→vs[p]? = z0.cells[p % E.T.size e]?:=by
    intro p hp
    have hlt:p % E.T.size e < z0.cells.size:=by rw [hzsz];exact Nat.mod_lt _ hpos
    simp only [vs,Builtin.zeroCells,Array.getElem?_toList,Array.getElem?_map,Array.getElem?_range,hzsz,hp,if_true,Option.map_some]
    rw [Array.getElem?_eq_getElem hlt,getElem!_pos z0.cells _ hlt]
   have hfit:lo.toNat * E.T.size e + vs.length≤c.size:=by
    rw [hvs,← Nat.add_mul]
    exact Nat.le_trans (Nat.mul_le_mul_right _ (by omega)) hsz
   have hone:∀ v∈vs,v.oneCell' = true:=by
    intro v hv
    obtain ⟨p,hp⟩:=List.getElem?_of_mem hv
    have hpl:p < (hi - lo).toNat * E.T.size e:=by
     rcases Nat.lt_or_ge p vs.length with hh | hh
     ·rw [hvs] at hh;exact hh
     ·rw [List.getElem?_eq_none hh] at hp;cases hp
    rw [hget p hpl] at hp
    have hm:p % E.T.size e < ds.length:=by rw [hdl'];exact Nat.mod_lt _ hpos
    obtain ⟨u,hu,hd⟩:=hdr _ _ (List.getElem?_eq_getElem hm)
    have:u = v:=by
     have hu':z0.cells[p % E.T.size e]? = some u:=by simpa using hu
     rw [hp] at hu'
     exact (Option.some.inj hu').symm
    subst this
    exact hd.one
   have hst:=run_storeCells_at E.P b' (lo.toNat * E.T.size e) ty0 vs 0 c w hc (by omega) hone
   rw [Nat.add_zero] at hst
   refine ⟨w.setRow b' (c.toList.take (lo.toNat * E.T.size e)++vs++c.toList.drop (lo.toNat * E.T.size e + vs.length)).toArray,?_⟩
   obtain ⟨γ',φ',hR,hγ',hφ',_,_⟩:=h.turn (w':=w.setRow b' (c.toList.take (lo.toNat * E.T.size e)++vs++c.toList.drop (lo.toNat * E.T.size e + vs.length)).toArray) hl (ybgy hl) (fun e=>absurd rfl e)
    (.row e (xs.take lo.toNat++(List.replicate (hi - lo).toNat z++xs.drop hi.toNat))) (γ tg) (fun _=>⟨rfl,rfl⟩)
    (fun b hb=>Go.setRow_other w b' b _ (fun e=>hb (by rw [hφ];simp [e]))) (Go.setRow_size _ _ _) rfl ⟨rfl,fun _=>Nat.le_refl _⟩ rfl
    (fun γ' φ' hp hγ' hφ'' hγn hcomp=>by
     simp only [ROb,RIV]
     have hlen:(xs.take lo.toNat++(List.replicate (hi - lo).toNat z++xs.drop hi.toNat)).length = xs.length:=by simp;omega
     refine ⟨some b',by rw [hφ''];exact hφ,?_,fun b hb=>?_⟩
     ·simp only [OwnSl]
      refine ⟨cap0,_,ty0,by rw [hγ',hv,hlen],by rw [hlen];exact hle,setRow_heap _ _ _ _ _ _ hc,?_⟩
      simp only [List.size_toArray,List.length_append,List.length_take,List.length_drop,Array.length_toList]
      omega
     ·cases hb
      refine ⟨_,ty0,setRow_heap _ _ _ _ _ _ hc,fun i x hi' j d hj=>?_⟩
      rw [Nat.zero_add]
      have hjl:=yjBy hok hj
      have hil:i < xs.length:=by
       rcases Nat.lt_or_ge i xs.length with hh | hh
       ·exact hh
       ·rw [List.getElem?_eq_none (by rw [hlen];exact hh)] at hi';cases hi'
      have hcell:∀ p,((c.toList.take (lo.toNat * E.T.size e)++vs++c.toList.drop (lo.toNat * E.T.size e + vs.length)).toArray)[p]? =
        if p < lo.toNat * E.T.size e then c[p]? else if p < lo.toNat * E.T.size e + vs.length then vs[p - lo.toNat * E.T.size e]? else c[p]?:=by
       intro p
       have:=ydXy c.toList (lo.toNat * E.T.size e) vs (by simp;omega) p
       unfold Am.splice at this
       rw [← List.append_assoc] at this
       simpa using this
      rw [hcell]
      by_cases hA:i < lo.toNat
      ·rw [List.getElem?_append_left (by simp;omega),List.getElem?_take_of_lt hA] at hi'
       obtain ⟨u,hu,hd⟩:=hrow' i x hi' j d hj
       rw [Nat.zero_add] at hu
       have:(i + 1) * E.T.size e≤lo.toNat * E.T.size e:=Nat.mul_le_mul_right _ hA
       rw [Nat.add_mul,Nat.one_mul] at this
       rw [if_pos (by omega)]
       exact ⟨u,hu,hd.mono hp⟩
      ·have hge:lo.toNat * E.T.size e≤i * E.T.size e:=Nat.mul_le_mul_right _ (by omega)
       rw [if_neg (by omega)]
       rw [List.getElem?_append_right (by simp;omega)] at hi'
       have hmin:min lo.toNat xs.length = lo.toNat:=by omega
       rw [List.length_take,hmin] at hi'
       by_cases hB:i < hi.toNat
       ·rw [List.getElem?_append_left (by simp;omega)] at hi'
        rw [List.getElem?_replicate] at hi'
        split at hi'
        ·cases hi'
         have h5:(i - lo.toNat + 1) * E.T.size e≤(hi - lo).toNat * E.T.size e:=Nat.mul_le_mul_right _ (by omega)
         rw [Nat.add_mul,Nat.one_mul,Nat.sub_mul] at h5
         rw [if_pos (by rw [hvs];omega),hget _ (by omega)]
         have h6:(i * E.T.size e + j - lo.toNat * E.T.size e) % E.T.size e = j:=by
          have:i * E.T.size e + j - lo.toNat * E.T.size e = E.T.size e * (i - lo.toNat) + j:=by
           rw [Nat.mul_comm (E.T.size e),Nat.sub_mul];omega
          rw [this,Nat.mul_add_mod,Nat.mod_eq_of_lt hjl]
         rw [h6]
         obtain ⟨d',hd',himp⟩:=hrep w av j _ (List.getElem?_eq_getElem (show j < ds.length by rw [hdl'];exact hjl))
         rw [hj] at hd'
         cases hd'
         obtain ⟨u,hu,hdr'⟩:=hdr j _ (List.getElem?_eq_getElem (show j < ds.length by rw [hdl'];exact hjl))
         exact ⟨u,by simpa using hu,(himp u hdr').mono hp⟩
        ·cases hi'
       ·rw [List.getElem?_append_right (by simp;omega),List.length_replicate,List.getElem?_drop] at hi'
        have h7:hi.toNat * E.T.size e≤i * E.T.size e:=Nat.mul_le_mul_right _ (by omega)
        have h8:lo.toNat * E.T.size e + (hi - lo).toNat * E.T.size e = hi.toNat * E.T.size e:=by rw [← Nat.add_mul];congr 1;omega
        rw [if_neg (by rw [hvs];omega)]
        have h9:hi.toNat + (i - lo.toNat - (hi - lo).toNat) = i:=by omega
        rw [h9] at hi'
        obtain ⟨u,hu,hd⟩:=hrow' i x hi' j d hj
        rw [Nat.zero_add] at hu
        exact ⟨u,hu,hd.mono hp⟩)
   rw [ye0y] at hR
   refine ⟨γ',φ',?_,hR⟩
   have hst':(storeCells ⟨b',lo.toNat * E.T.size e,none⟩ (Builtin.zeroCells z0.cells (n + 1)).toList).run E.P w = .ok () (w.setRow b' (c.toList.take (lo.toNat * E.T.size e)++vs++c.toList.drop (lo.toNat * E.T.size e + vs.length)).toArray):=by
    rw [← hn];exact hst
   rw [hn]
   simp [Builtin.clear_,run_underlying hu,hrun,hst']
  ·have he:hi = lo:=by omega
   subst he
   have hxs:xs.take hi.toNat++(List.replicate (hi - hi).toNat z++xs.drop hi.toNat) = xs:=by simp
   refine ⟨w,γ,φ,?_,?_⟩
   ·have:(hi - hi).toNat = 0:=by omega
    rw [this]
    cases pa <;> simp [Builtin.clear_,run_underlying hu]
   ·rw [hxs]
    have:S.upd [(tg,some (.row e xs))] = S:=by
     show { S with st:=S.st.set tg (some (.row e xs)) } = S
     have hlt':=ybgy hl
     have hset:S.st.set tg (some (.row e xs)) = S.st:=by
      apply List.ext_getElem?
      intro i
      rw [List.getElem?_set]
      split
      ·rename_i hi
       subst hi
       simp [hlt']
       unfold St.look at hl
       rw [List.getElem?_eq_getElem hlt'] at hl
       simpa using hl.symm
      ·rfl
     rw [hset]
    rw [this]
    exact h
end Go.Am
