/- Part of an abstract machine for this program, with its soundness: AmRange. No condition: lemmas for the claim. -/
import Derived.Test.YtoajjnhmofegcaaGreatDoorAmTab
import Derived.Laws.IdiomRangeMap
set_option linter.unusedVariables false
set_option linter.unusedSimpArgs false
namespace Go.Am
open Go
variable {A:Nat→Type}
def picks {α:Type}:List α→List (α×List α)
 | []=>[]
 | x::xs=>(x,xs)::(picks xs).map fun p=>(p.1,x::p.2)
open Classical in
noncomputable def yedy {α R:Type} (l:List α) (over:Option R) (f:α→List α→Option R):Option R :=
 match l with
 | []=>over
 | x::xs=>if h:∃ r,∀ p∈picks (x::xs),f p.1 p.2 = some r then some h.choose else none
theorem yooy {α R:Type} (over:Option R) (f:α→List α→Option R):yedy [] over f = over:=rfl
theorem ywdy {α R:Type} {l:List α} {over:Option R} {f:α→List α→Option R} {r:R} (h:yedy l over f = some r):(l = []∧over = some r) ∨ (l≠[]∧∀ p∈picks l,f p.1 p.2 = some r):=by
 cases l with
 | nil=>exact .inl ⟨rfl,h⟩
 | cons x xs =>
  refine .inr ⟨by simp,?_⟩
  unfold yedy at h
  simp only at h
  split at h
  ·rename_i hh
   rw [← Option.some.inj h]
   exact hh.choose_spec
  ·cases h
theorem yAcy {α R:Type} {l:List α} {over:Option R} {f:α→List α→Option R} {r:R} (h0:l≠[]) (h:∀ p∈picks l,f p.1 p.2 = some r):yedy l over f = some r:=by
 cases l with
 | nil=>exact absurd rfl h0
 | cons x xs =>
  unfold yedy
  simp only
  have hh:∃ r,∀ p∈picks (x::xs),f p.1 p.2 = some r:=⟨r,h⟩
  rw [dif_pos hh]
  have h1:=hh.choose_spec (x,xs) (by simp [picks])
  rw [h (x,xs) (by simp [picks])] at h1
  rw [← Option.some.inj h1]
theorem yuJy {α R:Type} {l:List α} {over:Option R} {f:α→List α→Option R} {y:Option R} (h0:l≠[]) (h:∀ p∈picks l,f p.1 p.2 = y):yedy l over f = y:=by
 cases y with
 | some r=>exact yAcy h0 h
 | none =>
  cases l with
  | nil=>exact absurd rfl h0
  | cons x xs =>
   unfold yedy
   simp only
   rw [dif_neg]
   rintro ⟨r,hr⟩
   have:=hr (x,xs) (by simp [picks])
   rw [h (x,xs) (by simp [picks])] at this
   cases this
theorem yEqy {P:Program} (w:World) (ty:TypeId) (r bm since c0:Nat) (seen:Array Nat) (es:Array MapEntry) (clock:Nat) (hr:w.heap[r]? = some (.mapIter (some bm) since seen c0)) (hb:w.heap[bm]? = some (.map es clock))
  (hold:∀ x∈es.toList,x.born < since) (hsc:since≤c0) :
  ((leftOf es seen).size = 0∧(Instr.next (.pointer (some ⟨r,0,none⟩)) false ty).run P w = .ok (.tuple #[.bool false]) w) ∨
  ∃ e∈(leftOf es seen).toList,∃ n,w.drawn≤n∧(Instr.next (.pointer (some ⟨r,0,none⟩)) false ty).run P w = .ok (.tuple #[.bool true,e.key,e.val]) { w with drawn:=n,heap:=w.heap.setIfInBounds r (.mapIter (some bm) since (seen.push e.born) clock) }:=by
 simp only [Instr.next,getObj,Sem.run_bind,Sem.run,hr,hb,Result.andThen,next_test_false seen es since c0 hold hsc,Bool.false_eq_true,if_false]
 unfold leftOf
 have hmem:∀ x∈(Array.filter (fun e=>!seen.contains e.born) es).toList,x.born < since:=fun x hx=>hold x (by simp at hx ⊢;exact hx.1)
 generalize Array.filter (fun e=>!seen.contains e.born) es = L at hmem ⊢
 have e1:L.filter (fun x=>decide (x.born < since)) = L:=Array.filter_eq_self.2 (fun x hx=>by simpa using hmem x (by simpa using hx))
 have e2:L.filter (fun x=>decide (x.born ≥ since)) = #[]:=by
  rw [Array.filter_eq_empty_iff]
  intro x hx
  have:=hmem x (by simpa using hx)
  simp
  omega
 simp only [e1,e2,Array.append_empty]
 by_cases h0:L.size = 0
 ·left
  have:L = #[]:=Array.eq_empty_of_size_eq_zero h0
  subst this
  refine ⟨rfl,?_⟩
  simp [choose,Sem.run,Question.forced]
 ·right
  have hne:L.isEmpty = false:=by simp [Array.isEmpty,h0]
  simp only [hne,Bool.false_eq_true,if_false,Array.empty_append,Array.size_map]
  have hch:∃ (j:Nat) (n:Nat),j < L.size∧w.drawn≤n∧(choose (Question.mapNext L.size)).run P w = .ok j { w with drawn:=n }:=by
   by_cases hf:L.size≤1
   ·exact ⟨0,w.drawn,by omega,Nat.le_refl _,by simp [choose,Sem.run,Question.forced,hf]⟩
   ·refine ⟨w.tape w.drawn (.mapNext L.size) % L.size,w.drawn + 1,Nat.mod_lt _ (show 0 < L.size by omega),Nat.le_succ _,?_⟩
    simp only [choose,Sem.run,Question.forced,decide_eq_true_eq,hf,if_false,Question.cut]
  obtain ⟨j,n,hj,hn,hrun⟩:=hch
  refine ⟨L[j],by simp,n,hn,?_⟩
  have hrl:r < w.heap.size:=by
   rcases Nat.lt_or_ge r w.heap.size with h | h
   ·exact h
   ·simp [Array.getElem?_eq_none h] at hr
  have hset:∀ (o':Obj),(setObj r o').run P { w with drawn:=n } = .ok () { w with drawn:=n,heap:=w.heap.setIfInBounds r o' }:=fun o'=>by
   simp only [setObj,Sem.run]
   rw [hr]
  simp only [hrun,Array.getElem?_map,Array.getElem?_eq_getElem hj,Option.map_some,Sem.run_bind,hset,Result.andThen]
  rfl
theorem yAJy {P:Program} (w:World) (r bm since:Nat) (seen:Array Nat) (es:Array MapEntry) (clock:Nat) (e:MapEntry) (hr:w.heap[r]? = some (.mapIter (some bm) since (seen.push e.born) clock)) (hb:w.heap[bm]? = some (.map es clock))
  (he:e∈es.toList) (hn:(es.toList.map (·.born)).Nodup):(Instr.entry (.pointer (some ⟨r,0,none⟩))).run P w = .ok (.tuple #[e.key,e.val]) w:=by
 have hf:es.find? (·.born == e.born) = some e:=by rw [← Array.find?_toList];exact find_born e es.toList hn he
 simp only [Instr.entry,getObj,Sem.run_bind,Sem.run,hr,hb,Result.andThen,Array.back?_push,bne_self_eq_false,Bool.false_eq_true,if_false,hf]
 rfl
theorem yBDy {P:Program} (w:World) (t k e:TypeId) (bm:Nat) (es:Array MapEntry) (clock:Nat) (ht:P.underlying t = some (.map k e)) (hb:w.heap[bm]? = some (.map es clock)) :
  (Instr.range t (.map (some bm))).run P w = .ok (.pointer (some ⟨w.heap.size,0,none⟩)) (w.alloc (.mapIter (some bm) clock #[] clock)):=run_range_map w t k e bm es clock ht hb
structure RangeP where
 idx:Nat
 ops:Array Oper
 it:Nat
 T:TypeId
 ms:Nat
 B:Nat
 idn:Nat
 opsN:Array Oper
 tn:Nat
 te:Nat
 C:Nat
 ide:Nat
 opsE:Array Oper
 tk:Nat
 rest:Code
def RangeP.body (p:RangeP):Code:=.seq (.region p.idn p.opsN false) (.seq (.cond (.tmp p.te) .skip (.exit p.B)) (.block p.C (.seq (.region p.ide p.opsE false) p.rest)))
structure RangeP.Fine (p:RangeP):Prop where
 n0:0 < p.ops.size
 ox:∃ o,p.ops[p.ops.size - 1]? = some o∧o.op = .range p.T (.tmp p.ms)∧o.dst = some p.it∧o.guard = none
 on:∃ o1 o2,p.opsN = #[o1,o2]∧o1.op = .next (.tmp p.it) false∧o1.dst = some p.tn∧o1.guard = none∧o2.op = .extract (.tmp p.tn) 0∧o2.dst = some p.te∧o2.guard = none
 e0:0 < p.opsE.size
 oe:∃ o,p.opsE[0]? = some o∧o.op = .entry (.tmp p.it)∧o.dst = some p.tk∧o.guard = none
def ytNy (o:Oper):Option (Nat×TypeId×Nat):=match o.dst,o.op,o.guard with | some it,.range T (.tmp ms),none=>some (it,T,ms) | _,_,_=>none
def ytky (it:Nat) (o:Oper):Option Nat:=match o.dst,o.op,o.guard with | some tn,.next (.tmp i) false,none=>if i = it then some tn else none | _,_,_=>none
def yvly (tn:Nat) (o:Oper):Option Nat:=match o.dst,o.op,o.guard with | some te,.extract (.tmp i) 0,none=>if i = tn then some te else none | _,_,_=>none
def yrty (it:Nat) (o:Oper):Option Nat:=match o.dst,o.op,o.guard with | some tk,.entry (.tmp i),none=>if i = it then some tk else none | _,_,_=>none
def yd4y (a b:Code):Option RangeP :=
 match a with
 | .region idx ops false =>
  match b with
  | .block B (.loop (.seq (.region idn opsN false) (.seq (.cond (.tmp tc) .skip (.exit B')) (.block C (.seq (.region ide opsE false) rest))))) =>
   match (ops[ops.size - 1]?).bind ytNy,opsN.toList,opsE[0]? with
   | some (it,T,ms),[o1,o2],some o3 =>
    match ytky it o1,yrty it o3 with
    | some tn,some tk =>
     match yvly tn o2 with
     | some te=>if te = tc∧B' = B then some { idx,ops,it,T,ms,B,idn,opsN,tn,te,C,ide,opsE,tk,rest } else none
     | none=>none
    | _,_=>none
   | _,_,_=>none
  | _=>none
 | _=>none
theorem yBCy {o:Oper} {it ms:Nat} {T:TypeId} (h:ytNy o = some (it,T,ms)):o.op = .range T (.tmp ms)∧o.dst = some it∧o.guard = none:=by
 unfold ytNy at h
 split at h
 ·rename_i h1 h2 h3;cases h;exact ⟨h2,h1,h3⟩
 ·cases h
theorem yCny {o:Oper} {it tn:Nat} (h:ytky it o = some tn):o.op = .next (.tmp it) false∧o.dst = some tn∧o.guard = none:=by
 unfold ytky at h
 split at h
 ·rename_i h1 h2 h3
  split at h
  ·rename_i he;cases h;subst he;exact ⟨h2,h1,h3⟩
  ·cases h
 ·cases h
theorem yBfy {o:Oper} {tn te:Nat} (h:yvly tn o = some te):o.op = .extract (.tmp tn) 0∧o.dst = some te∧o.guard = none:=by
 unfold yvly at h
 split at h
 ·rename_i h1 h2 h3
  split at h
  ·rename_i he;cases h;subst he;exact ⟨h2,h1,h3⟩
  ·cases h
 ·cases h
theorem rangeK'_of {o:Oper} {it tk:Nat} (h:yrty it o = some tk):o.op = .entry (.tmp it)∧o.dst = some tk∧o.guard = none:=by
 unfold yrty at h
 split at h
 ·rename_i h1 h2 h3
  split at h
  ·rename_i he;cases h;subst he;exact ⟨h2,h1,h3⟩
  ·cases h
 ·cases h
theorem yAfy {a b:Code} {p:RangeP} (h:yd4y a b = some p):a = .region p.idx p.ops false∧b = .block p.B (.loop p.body)∧p.Fine:=by
 unfold yd4y at h
 split at h
 ·split at h
  ·split at h
   ·rename_i hx hn he
    split at h
    ·rename_i h1 h2
     split at h
     ·rename_i h3
      split at h
      ·rename_i h4
       obtain ⟨rfl,rfl⟩:=h4
       cases h
       obtain ⟨o,ho,hxo⟩:=Option.bind_eq_some_iff.1 hx
       obtain ⟨e1,e2,e3⟩:=yBCy hxo
       obtain ⟨n1,n2,n3⟩:=yCny h1
       obtain ⟨x1,x2,x3⟩:=yBfy h3
       obtain ⟨k1,k2,k3⟩:=rangeK'_of h2
       refine ⟨rfl,rfl,?_,⟨o,ho,e1,e2,e3⟩,⟨_,_,Array.toList_inj.1 (by simp [hn]),n1,n2,n3,x1,x2,x3⟩,?_,⟨_,he,k1,k2,k3⟩⟩
       ·obtain ⟨hlt,_⟩:=Array.getElem?_eq_some_iff.1 ho
        exact Nat.lt_of_le_of_lt (Nat.zero_le _) hlt
       ·exact (Array.getElem?_eq_some_iff.1 he).1
      ·cases h
     ·cases h
    ·cases h
   ·cases h
  ·cases h
 ·cases h
abbrev ybRy (A:Nat→Type):=(tg k e:Nat)→(m left:List (A k×A e))→St A→{R:Type}→(Ex→St A→Option R)→Option R
def pinE (E:Env A) (p:RangeP):Env A:={ E with pin:=p.ms::p.it::E.pin }
def yoWy (p:RangeP) (tg:Nat) {k e:Nat} (m:List (A k×A e)) (S:St A):St A :=
 match S.look tg,(S.fr[p.ms]?).getD .undef with
 | some (.gone kd),.mp t=>if t = tg∧kd = (2,0) then { S with st:=S.st.set tg (some (.mp k e m)) } else S
 | _,_=>S
def yjTy (E:Env A) (p:RangeP) (tg:Nat) {k e:Nat} (m:List (A k×A e)) (ex:Ex) (S:St A) {R:Type} (K:Ex→St A→Option R):Option R:=canonAt (E.exitH p.idn) (yoWy p tg m S) fun S'=>K ex S'
def yggy (ops:Array Oper):List (Nat×Oper):=ops.toList.zipIdx.map fun (o,i)=>(i,o)
noncomputable def ymfy (E:Env A) (n:Nat) (p:RangeP) (tg k e:Nat) (m left:List (A k×A e)) (S:St A) {R:Type} (next:List (A k×A e)→St A→Option R) (K:Ex→St A→Option R):Option R :=
 bif decide (p.tn < S.fr.length)&&decide (p.te < S.fr.length) then
  yedy left (yjTy E p tg m .normal ((S.put (some p.tn) .undef).put (some p.te) (.d (.bool false))) K)
   fun x l=>regK (pinE E p) p.opsE.toList ((yggy p.opsE).drop 1) (((S.put (some p.tn) .undef).put (some p.te) (.d (.bool true))).put (some p.tk) (.tup [yaWy E.T k x.1,yaWy E.T e x.2])) fun S2 =>
    canonAt ((yagy p.rest).bind E.seqH) S2 fun S3 =>
     aexec (pinE E p) n p.rest S3 fun ex S4 =>
      match ex with
      | .normal=>canonAt (E.loopH p.idn) S4 fun S5=>next l S5
      | .exit i=>if i = p.C then canonAt (E.loopH p.idn) S4 fun S5=>next l S5 else if i = p.B then yjTy E p tg m .normal S4 K else yjTy E p tg m (.exit i) S4 K
      | .ret=>yjTy E p tg m .ret S4 K
 else none
def RangeP.apart (p:RangeP) (pin:List Nat):Bool :=
 !pin.contains p.it&&(!pin.contains p.tn&&(!pin.contains p.te&&(!pin.contains p.tk&&(!(p.ms == p.it)&&(!(p.tn == p.ms)&&(!(p.tn == p.it)&&(!(p.te == p.ms)&&(!(p.te == p.it)&&(!(p.tk == p.ms)&&!(p.tk == p.it))))))))))
def ypIy (P:Program) (t:TypeId):Bool:=match P.underlying t with | some (.map _ _)=>true | _=>false
def yvoy (E:Env A) (CR:Nat→Option (ybRy A)) (p:RangeP) (S:St A) {R:Type} (K:Ex→St A→Option R):Option R :=
 bif p.apart E.pin&&ypIy E.P p.T then
  regK E p.ops.toList ((yggy p.ops).take (p.ops.size - 1)) S fun S1 =>
   match (S1.fr[p.ms]?).getD .undef with
   | .mp tg =>
    match S1.look tg with
    | some (.mp k e m) =>
     bif E.flat k&&(E.flat e&&decide (p.it < S1.fr.length)) then
      canonAt (E.loopH p.idn) { fr:=S1.fr.set p.it .undef,st:=S1.st.set tg (some (.gone (2,0))) } fun S2 =>
       match CR p.idn with
       | some f=>f tg k e m m S2 K
       | none=>none
     else none
    | _=>none
   | _=>none
 else none
noncomputable def ydHy (E:Env A) (CR:Nat→Option (ybRy A)) (n:Nat):Code→St A→{R:Type}→(Ex→St A→Option R)→Option R
 | .seq a b,S,_,K =>
  match yd4y a b with
  | some p=>yvoy E CR p S K
  | none=>ydHy E CR n a S fun e S' =>
   match e with
   | .normal=>canonAt ((yagy b).bind E.seqH) S' fun S''=>ydHy E CR n b S'' K
   | e=>K e S'
 | .cond c a b,S,_,K =>
  match yafy S.fr c with
  | .d (.bool t)=>bif t then ydHy E CR n a S K else ydHy E CR n b S K
  | _=>none
 | .block id b,S,_,K=>ydHy E CR n b S fun e S' =>
   match e with
   | .exit i=>if i = id then K .normal S' else K (.exit i) S'
   | e=>K e S'
 | c,S,_,K=>aexec E n c S K
noncomputable def ymFy (E:Env A) (CR:Nat→Option (ybRy A)) (fn:Func) (code:Code) (nst:Nat) (argTags:List Nat) (sh:List Shape) (n:Nat):Spec A:=fun args _ k =>
 match yaLy 64 args argTags with
 | some (vs,u,_) =>
  bif ycky argTags&&(argTags.all (fun t=>decide (t < nst))&&E.pin.all (fun i=>decide (i < vs.length))) then
  ydHy E CR n code (St.upd { fr:=vs++List.replicate (fn.ntmps - vs.length) .undef,st:=List.replicate nst none } u) fun e S =>
   match e with
   | .normal | .ret=>yejy E sh fn.results.toList vs.length S k
   | .exit _=>none
  else none
 | none=>none
end Go.Am
set_option linter.unusedVariables false
set_option linter.unusedSimpArgs false
namespace Go.Am
open Go
variable {A:Nat→Type}
variable {T:Ty A} {w0 w w':World} {F0:List Nat} {X:Nat→Prop} {γ γ':Nat→Value} {φ φ':Nat→List Nat} {av av':Nat→Prop} {tmps:Array Value} {S S':St A} {R:Type} {P:Program} {res:R}
theorem ygvy {ops:Array Oper} {Q:Exit→Act→World→Prop} {i:Nat} {rest:List Nat} {o:Oper} {a:Act} {v:Value} (ho:ops[i]? = some o) (hg:o.guard = none)
  (hrun:(execOp a.eval o).run P w = .ok (.value v) w') (h:wpOps P ops Q rest (a.put o.dst v) w'):wpOps P ops Q (i::rest) a w:=by
 have hw:Region.wanted o (yielded ops a.tmps) = true:=by simp [Region.wanted,hg]
 simp only [wpOps,ho,hw,if_true]
 exact .inl (by unfold Oper.wp;rw [hrun];exact h)
theorem yjoy (E:Env A) (hE:EnvOk E) {us:Array Value} {ops:Array Oper} {Q:Exit→Act→World→Prop} (rest:List Nat):∀ {l:List (Nat×Oper)} {k:St A→Option R} {S:St A} {tmps:Array Value} {w:World},
  (∀ p∈l,ops[p.1]? = some p.2)→Rels E w0 F0 X us w tmps S→regK E ops.toList l S k = some res →
  (∀ S' tmps' w',k S' = some res→Rels E w0 F0 X us w' tmps' S'→wpOps E.P ops Q rest ⟨tmps',[]⟩ w')→wpOps E.P ops Q (l.map (·.1)++rest) ⟨tmps,[]⟩ w
 | [],k,S,tmps,w,hl,h,hk,hq=>by
  simp only [regK] at hk
  simpa using hq _ _ _ hk h
 | (i,o)::r,k,S,tmps,w,hl,h,hk,hq=>by
  simp only [regK] at hk
  simp only [List.map_cons,List.cons_append]
  rw [wpOps_cons]
  exact yjiy E hE (hl (i,o) (by simp)) h hk (fun S' ts tmps' w' h1 h2=>yjoy E hE rest (fun p hp=>hl p (by simp [hp])) h2 h1 hq)
def Apart (γ:Nat→Value) (φ:Nat→List Nat) (av:Nat→Prop) (S:St A) (Y:Nat→Prop):Prop:=∀ b,Y b→av b∧∀ t o,S.look t = some o→b ∉ φ t
def AllOf (φ:Nat→List Nat) (S:St A):List Nat:=(List.range S.st.length).flatMap fun t=>if (S.look t).isSome then φ t else []
theorem yeWy {b:Nat}:b∈AllOf φ S ↔ ∃ t o,S.look t = some o∧b∈φ t:=by
 unfold AllOf
 simp only [List.mem_flatMap,List.mem_range]
 constructor
 ·rintro ⟨t,ht,hb⟩
  split at hb
  ·rename_i hs
   obtain ⟨o,ho⟩:=Option.isSome_iff_exists.1 hs
   exact ⟨t,o,ho,hb⟩
  ·cases hb
 ·rintro ⟨t,o,ho,hb⟩
  exact ⟨t,ybgy ho,by rw [ho];exact hb⟩
theorem Rel.rebase {Y:Nat→Prop} (h:Rel T w0 F0 X γ φ av w tmps S) (hY:Apart γ φ av S Y):Rel T w (AllOf φ S) (fun b=>X b ∨ Y b) γ φ av w tmps S:=by
 refine ⟨h.fr,h.ob,h.nd,h.disj,?_,h.avlt,?_,?_,⟨rfl,ycZy.refl _ _,rfl,Nat.le_refl _,fun _ _ _=>rfl⟩,h.ambNow (fun b hb=>?_)⟩
 ·rintro b ((hb | hb) | hb)
  ·exact h.avs b (.inl hb)
  ·exact (hY b hb).1
  ·exact h.avs b (.inr hb)
 ·intro t o ho b hb
  exact ⟨.inl (yeWy.2 ⟨t,o,ho,hb⟩),(h.fp t o ho b hb).2⟩
 ·rintro b (hb | hb)
  ·refine ⟨Nat.lt_of_lt_of_le (h.x b hb).1 h.left.size,fun hm=>?_⟩
   obtain ⟨t,o,ho,hbt⟩:=yeWy.1 hm
   exact h.notX ho hbt hb
  ·refine ⟨h.avlt b (hY b hb).1,fun hm=>?_⟩
   obtain ⟨t,o,ho,hbt⟩:=yeWy.1 hm
   exact (hY b hb).2 t o ho hbt
 ·obtain ⟨t,o,ho,hbt⟩:=yeWy.1 hb
  exact (h.fp t o ho b hbt).1
theorem Rel.unbase {Y:Nat→Prop} {w1:World} {S1:St A} {tmps1:Array Value} {γ1:Nat→Value} {φ1:Nat→List Nat} {av1:Nat→Prop} (h:Rel T w0 F0 X γ1 φ1 av1 w1 tmps1 S1) (h':Rel T w1 (AllOf φ1 S1) (fun b=>X b ∨ Y b) γ φ av w tmps S) :
  Rel T w0 F0 X γ φ av w tmps S∧Apart γ φ av S Y∧(∀ b,Y b→w.heap[b]? = w1.heap[b]?):=by
 have hF:∀ b∈AllOf φ1 S1,b∈F0 ∨ w0.heap.size≤b:=by
  intro b hb
  obtain ⟨t,o,ho,hbt⟩:=yeWy.1 hb
  exact (h.fp t o ho b hbt).1
 refine ⟨⟨h'.fr,h'.ob,h'.nd,h'.disj,?_,h'.avlt,?_,h.x,?_,h.amb⟩,?_,?_⟩
 ·rintro b (hb | hb)
  ·exact h'.avs b (.inl (.inl hb))
  ·exact h'.avs b (.inr hb)
 ·intro t o ho b hb
  obtain ⟨h1,h2⟩:=h'.fp t o ho b hb
  refine ⟨?_,h2⟩
  rcases h1 with h1 | h1
  ·exact hF b h1
  ·exact .inr (Nat.le_trans h.left.size h1)
 ·obtain ⟨a1,a2,a3,a4,a5⟩:=h.left
  obtain ⟨b1,b2,b3,b4,b5⟩:=h'.left
  refine ⟨b1.trans a1,a2.trans b2,b3.trans a3,Nat.le_trans a4 b4,fun i hi hn=>?_⟩
  rw [b5 i (Nat.lt_of_lt_of_le hi a4) (fun hm=>?_),a5 i hi hn]
  rcases hF i hm with hh | hh
  ·exact hn hh
  ·omega
 ·intro b hb
  exact ⟨h'.avs b (.inl (.inr hb)),fun t o ho hbt=>h'.notX ho hbt (.inr hb)⟩
 ·intro b hb
  exact h'.left.block b (h'.x b (.inr hb)).1 (h'.x b (.inr hb)).2
theorem Rel.aside {Y:Nat→Prop} (h:Rel T w0 F0 X γ φ av w tmps S) (hY:Apart γ φ av S Y) {r:Nat} (hr:Y r) (hx0:w0.heap.size≤r) {n:Nat} (hn:w.drawn≤n) (o:Obj) :
  Rel T w0 F0 X γ φ av { w with drawn:=n,heap:=w.heap.setIfInBounds r o } tmps S:=by
 have hh:∀ b,b≠r→(w.heap.setIfInBounds r o)[b]? = w.heap[b]?:=fun b hb=>by
  rw [Array.getElem?_setIfInBounds,if_neg (Ne.symm hb)]
 refine h.upd (fun _=>False) rfl ?_ (fun t _=>⟨rfl,rfl,rfl⟩) (fun t o' _ ho b hb=>?_) (fun t hf=>hf.elim) (fun t o hf=>hf.elim) (fun t o hf=>hf.elim)
  (fun t o t' o' hf=>hf.elim) h.avs (fun b hb=>by simpa using h.avlt b hb) (fun t o hf=>hf.elim) (by simp) ?_
 ·intro b o' hb ho
  refine ⟨?_,hb⟩
  show (w.heap.setIfInBounds r o)[b]? = some o'
  rw [hh b (fun e=>hb (e ▸ (hY r hr).1))];exact ho
 ·show (w.heap.setIfInBounds r o)[b]? = _
  exact hh b (fun e=>(hY r hr).2 t o' ho (e ▸ hb))
 ·obtain ⟨a,b,c,d,e⟩:=h.left
  refine ⟨a,⟨b.1,fun hd=>Nat.le_trans (b.2 hd) hn⟩,c,by simpa using d,fun i hi hni=>?_⟩
  show (w.heap.setIfInBounds r o)[i]? = _
  rw [hh i (by omega)];exact e i hi hni
theorem Rel.beginM (h:Rel T w0 F0 X γ φ av w tmps S) {tg k e:Nat} {m:List (A k×A e)} (hl:S.look tg = some (.mp k e m)) {b:Nat} {es:Array MapEntry} {clock:Nat} (hb:γ tg = .map (some b)) (hφ:φ tg = [b]) (o:Obj) :
  ∃ φ' av',Rel T w0 F0 X γ φ' av' (w.alloc o) tmps { S with st:=S.st.set tg (some (.gone (2,0))) } ∧
   Apart γ φ' av' { S with st:=S.st.set tg (some (.gone (2,0))) } (fun c=>c = b ∨ c = w.heap.size):=by
 have hlt:=ybgy hl
 let S':St A:={ S with st:=S.st.set tg (some (.gone (2,0))) }
 have hls:∀ u,S'.look u = if u = tg then some (.gone (2,0)) else S.look u:=by
  intro u
  show St.look { S with st:=S.st.set tg (some (.gone (2,0))) } u = _
  rw [yayy]
  by_cases hu:u = tg <;> simp [hu,hlt]
 let φ':Nat→List Nat:=fun u=>if u = tg then [] else φ u
 have hbt:b∈φ tg:=by rw [hφ];simp
 have hbav:av b:=h.av_of hl hbt
 refine ⟨φ',fun c=>av c ∨ c = w.heap.size,?_,?_⟩
 ·refine h.upd (fun t=>t = tg) rfl ?_ (fun t ht=>⟨by rw [hls,if_neg ht],rfl,by simp [φ',ht]⟩) (fun t o' ht ho c hc=>?_) (fun t ht _=>?_) (fun t o' ht ho=>?_) (fun t o' ht ho=>?_)
   (fun t o' t' o'' ht ho ho' hne c hc=>?_) ?_ ?_ (fun t o' ht ho c hc=>?_) (by rw [yaQy];omega) ?_
  ·intro c o' hc ho
   have hclt:c < w.heap.size:=by
    rcases Nat.lt_or_ge c w.heap.size with hh | hh
    ·exact hh
    ·simp [Array.getElem?_eq_none hh] at ho
   refine ⟨by rw [ybdy w _ c hclt];exact ho,fun hx=>?_⟩
   rcases hx with hx | hx
   ·exact hc hx
   ·omega
  ·exact ybdy w _ c (h.fp t o' ho c hc).2
  ·subst ht
   intro o' ho'
   rw [hls,if_pos rfl] at ho'
   cases ho'
   exact ⟨_,hl,rfl,rfl⟩
  ·subst ht
   rw [hls,if_pos rfl] at ho
   cases ho
   simp only [ROb]
   exact ⟨by simp [φ'],by rw [hb];rfl⟩
  ·subst ht;simp [φ']
  ·subst ht;simp [φ'] at hc
  ·rintro c (hc | ⟨t,o',ho,hc⟩)
   ·exact .inl (h.avs c (.inl hc))
   ·by_cases ht:t = tg
    ·subst ht;simp [φ'] at hc
    ·rw [hls,if_neg ht] at ho
     simp only [φ',if_neg ht] at hc
     exact .inl (h.av_of ho hc)
  ·rintro c (hc | hc)
   ·rw [yaQy];exact Nat.lt_succ_of_lt (h.avlt c hc)
   ·rw [yaQy];omega
  ·subst ht;simp [φ'] at hc
  ·obtain ⟨a1,a2,a3,a4,a5⟩:=h.left
   refine ⟨a1,a2,a3,by rw [yaQy];omega,fun i hi hn=>?_⟩
   rw [ybdy w _ i (by omega)]
   exact a5 i hi hn
 ·rintro c (rfl | rfl)
  ·refine ⟨.inl hbav,fun t o' ho hc=>?_⟩
   by_cases ht:t = tg
   ·subst ht;simp [φ'] at hc
   ·rw [hls,if_neg ht] at ho
    simp only [φ',if_neg ht] at hc
    exact h.disj tg _ t o' hl ho (Ne.symm ht) c hbt hc
  ·refine ⟨.inr rfl,fun t o' ho hc=>?_⟩
   by_cases ht:t = tg
   ·subst ht;simp [φ'] at hc
   ·rw [hls,if_neg ht] at ho
    simp only [φ',if_neg ht] at hc
    exact absurd (h.fp t o' ho _ hc).2 (Nat.lt_irrefl _)
theorem Rel.endM {Y:Nat→Prop} (h:Rel T w0 F0 X γ φ av w tmps S) (hY:Apart γ φ av S Y) {tg k e:Nat} {m:List (A k×A e)} (hl:S.look tg = some (.gone (2,0))) {b:Nat} (hyb:Y b) (hfb:b∈F0 ∨ w0.heap.size≤b) {es:Array MapEntry} {clock:Nat} (hb:γ tg = .map (some b))
  (hh:w.heap[b]? = some (.map es clock)) (hm:yaBy T w av k e es.toList m) (hs:yb9y es clock) :
  ∃ φ',Rel T w0 F0 X γ φ' av w tmps { S with st:=S.st.set tg (some (.mp k e m)) }:=by
 have hlt:=ybgy hl
 let S':St A:={ S with st:=S.st.set tg (some (.mp k e m)) }
 have hls:∀ u,S'.look u = if u = tg then some (.mp k e m) else S.look u:=by
  intro u
  show St.look { S with st:=S.st.set tg (some (.mp k e m)) } u = _
  rw [yayy]
  by_cases hu:u = tg <;> simp [hu,hlt]
 let φ':Nat→List Nat:=fun u=>if u = tg then [b] else φ u
 have hblt:b < w.heap.size:=h.avlt b (hY b hyb).1
 refine ⟨φ',h.upd (fun t=>t = tg) rfl (fun c o' hc ho=>⟨ho,hc⟩) (fun t ht=>⟨by rw [hls,if_neg ht],rfl,by simp [φ',ht]⟩) (fun t o' ht ho c hc=>rfl) (fun t ht _=>?_) (fun t o' ht ho=>?_) (fun t o' ht ho=>?_)
   (fun t o' t' o'' ht ho ho' hne c hc=>?_) ?_ h.avlt (fun t o' ht ho c hc=>?_) (Nat.le_refl _) h.left⟩
 ·subst ht
  intro o' ho'
  rw [hls,if_pos rfl] at ho'
  cases ho'
  exact ⟨_,hl,rfl,rfl⟩
 ·subst ht
  rw [hls,if_pos rfl] at ho
  cases ho
  simp only [ROb,RIV]
  exact ⟨b,es,clock,hb,by simp [φ'],hh,hm,hs⟩
 ·subst ht;simp [φ']
 ·subst ht
  simp only [φ',if_pos rfl,List.mem_singleton] at hc
  subst hc
  rw [hls,if_neg (Ne.symm hne)] at ho'
  simp only [φ',if_neg (Ne.symm hne)]
  exact (hY c hyb).2 t' o'' ho'
 ·rintro c (hc | ⟨t,o',ho,hc⟩)
  ·exact h.avs c (.inl hc)
  ·by_cases ht:t = tg
   ·subst ht;simp [φ'] at hc;subst hc;exact (hY c hyb).1
   ·rw [hls,if_neg ht] at ho
    simp only [φ',if_neg ht] at hc
    exact h.av_of ho hc
 ·subst ht
  simp only [φ',if_pos rfl,List.mem_singleton] at hc
  subst hc
  exact ⟨hfb,hblt⟩
theorem yxiy (es:Array MapEntry) (seen:Array Nat) (b:Nat):(leftOf es (seen.push b)).toList = (leftOf es seen).toList.filter fun x=>x.born != b:=by
 unfold leftOf
 simp only [Array.toList_filter,List.filter_filter]
 congr 1
 funext x
 rw [contains_push]
 cases seen.contains x.born <;> cases hx:x.born == b <;> simp [bne,hx]
theorem yrAy {l:List MapEntry} {b:Nat} (h:b ∉ l.map (·.born)):l.filter (fun x=>x.born != b) = l:=by
 rw [List.filter_eq_self]
 intro x hx
 simp only [bne_iff_ne,ne_eq]
 intro e
 exact h (List.mem_map.2 ⟨x,hx,e⟩)
theorem yu4y {k e:Nat}:∀ {L:List MapEntry} {left:List (A k×A e)},(∀ (w:World) av,yaBy T w av k e L left)→(L.map (·.born)).Nodup→∀ {en:MapEntry},en∈L →
  ∃ p∈picks left,(∀ (w:World) av,yaNy T w av k p.1.1 en.key∧yaNy T w av e p.1.2 en.val)∧∀ (w:World) av,yaBy T w av k e (L.filter fun x=>x.born != en.born) p.2
 | [],left,_,_,en,h=>by cases h
 | x::L,left,hr,hn,en,h=>by
  cases left with
  | nil=>exact (hr default (fun _=>False)).elim
  | cons q left =>
   have hr1:∀ (w:World) av,yaNy T w av k q.1 x.key∧yaNy T w av e q.2 x.val:=fun w av=>⟨(hr w av).1,(hr w av).2.1⟩
   have hr2:∀ (w:World) av,yaBy T w av k e L left:=fun w av=>(hr w av).2.2
   simp only [List.map_cons,List.nodup_cons] at hn
   rcases List.mem_cons.1 h with rfl | h
   ·refine ⟨(q,left),by simp [picks],hr1,fun w av=>?_⟩
    simp only [List.filter_cons,bne_self_eq_false,Bool.false_eq_true,if_false]
    rw [yrAy hn.1]
    exact hr2 w av
   ·obtain ⟨p,hp,h1,h2⟩:=yu4y hr2 hn.2 h
    refine ⟨(p.1,q::p.2),by simp only [picks,List.mem_cons,List.mem_map];exact .inr ⟨p,hp,rfl⟩,h1,fun w av=>?_⟩
    have hne:(x.born != en.born) = true:=by
     simp only [bne_iff_ne,ne_eq]
     intro e'
     exact hn.1 (List.mem_map.2 ⟨en,h,e'.symm⟩)
    simp only [List.filter_cons,hne,if_true]
    exact ⟨(hr w av).1,(hr w av).2.1,h2 w av⟩
theorem yGay {k e:Nat} {left:List (A k×A e)} (h:∀ (w:World) av,yaBy T w av k e [] left):left = []:=by
 cases left with
 | nil=>rfl
 | cons q l=>exact (h default (fun _=>False)).elim
theorem yJBy {k e:Nat} {en:MapEntry} {L:List MapEntry} (hm:en∈L) {left:List (A k×A e)} (h:∀ (w:World) av,yaBy T w av k e L left):left≠[]:=by
 rintro rfl
 cases L with
 | nil=>cases hm
 | cons q l=>exact (h default (fun _=>False)).elim
end Go.Am
set_option linter.unusedVariables false
set_option linter.unusedSimpArgs false
namespace Go.Am
open Go
variable {A:Nat→Type}
variable {w0 w w':World} {F0:List Nat} {X:Nat→Prop} {γ γ':Nat→Value} {φ φ':Nat→List Nat} {av av':Nat→Prop} {tmps:Array Value} {S S':St A} {R:Type} {P:Program} {res:R}
theorem yuFy {p:RangeP} {pin:List Nat} (h:p.apart pin = true):(∀ i∈pin,i≠p.it∧i≠p.tn∧i≠p.te∧i≠p.tk)∧p.ms≠p.it∧p.tn≠p.ms∧p.tn≠p.it∧p.te≠p.ms∧p.te≠p.it∧p.tk≠p.ms∧p.tk≠p.it:=by
 unfold RangeP.apart at h
 simp only [Bool.and_eq_true,Bool.not_eq_true',beq_eq_false_iff_ne,ne_eq] at h
 obtain ⟨h1,h2,h3,h4,h5⟩:=h
 refine ⟨fun i hi=>⟨?_,?_,?_,?_⟩,h5⟩
 ·rintro rfl;rw [List.contains_iff_mem.2 hi] at h1;cases h1
 ·rintro rfl;rw [List.contains_iff_mem.2 hi] at h2;cases h2
 ·rintro rfl;rw [List.contains_iff_mem.2 hi] at h3;cases h3
 ·rintro rfl;rw [List.contains_iff_mem.2 hi] at h4;cases h4
def Both (b r:Nat):Nat→Prop:=fun c=>c = b ∨ c = r
structure Head (E:Env A) (p:RangeP) (w0:World) (F0:List Nat) (X:Nat→Prop) (us:Array Value) (b r:Nat) {k e:Nat} (es:Array MapEntry) (clock:Nat) (left:List (A k×A e)) (w:World) (tmps:Array Value) (S:St A):Prop where
 rel:∃ γ φ av,Rel E.T w0 F0 X γ φ av w tmps S∧Apart γ φ av S (Both b r)
 pins:Pins (pinE E p) us tmps
 hb:w.heap[b]? = some (.map es clock)
 it:∃ seen,w.heap[r]? = some (.mapIter (some b) clock seen clock)∧∀ (w:World) av,yaBy E.T w av k e (leftOf es seen).toList left
structure Fixed (E:Env A) (p:RangeP) (w0:World) (F0:List Nat) (us0 us:Array Value) (b r:Nat) {k e:Nat} (es:Array MapEntry) (clock:Nat) (m:List (A k×A e)):Prop where
 pins:Pins E us0 us
 hm:us[p.ms]? = some (.map (some b))
 hi:us[p.it]? = some (.pointer (some ⟨r,0,none⟩))
 st:yb9y es clock
 fb:b∈F0 ∨ w0.heap.size≤b
 fr:w0.heap.size≤r
 ne:b≠r
 rep:∀ (w:World) av,yaBy E.T w av k e es.toList m
theorem yF7y {E:Env A} {p:RangeP} {us0 us:Array Value} (h:Pins E us0 us) (h':Pins (pinE E p) us tmps):Pins E us0 tmps:=fun i hi=>(h' i (by simp [pinE,hi])).trans (h i hi)
theorem yzky {E:Env A} {p:RangeP} {us0 us:Array Value} {b r k e:Nat} {es:Array MapEntry} {clock:Nat} {m:List (A k×A e)} (hx:Fixed E p w0 F0 us0 us b r es clock m) (tg:Nat) (h:Rel E.T w0 F0 X γ φ av w tmps S) (hY:Apart γ φ av S (Both b r))
  (hp:Pins (pinE E p) us tmps) (hh:w.heap[b]? = some (.map es clock)):Rels E w0 F0 X us0 w tmps (yoWy p tg m S):=by
 have hps:=yF7y hx.pins hp
 unfold yoWy
 split
 ·rename_i kd t hl hms
  split
  ·rename_i hc
   obtain ⟨rfl,rfl⟩:=hc
   have hv:tmps[p.ms]? = some (.map (some b)):=(hp p.ms (by simp [pinE])).trans hx.hm
   have hg:=h.get p.ms
   rw [hms] at hg
   simp only [RAV] at hg
   obtain ⟨hg1,_⟩:=hg _ hl
   have hγ:γ t = .map (some b):=by
    rw [← hg1,Array.getD_eq_getD_getElem?,hv];rfl
   obtain ⟨φ',hR⟩:=h.endM hY hl (.inl rfl) hx.fb hγ hh (hx.rep w av) hx.st
   exact ⟨⟨γ,φ',av,hR⟩,hps⟩
  ·exact ⟨⟨γ,φ,av,h⟩,hps⟩
 ·exact ⟨⟨γ,φ,av,h⟩,hps⟩
theorem yo7y {ds:List Deferred} (i:Nat):Act.eval ⟨tmps,ds⟩ (.tmp i) = tmps.getD i undef:=rfl
theorem yghy {i:Nat} {v:Value} (h:tmps[i]? = some v):tmps.getD i undef = v:=by rw [Array.getD_eq_getD_getElem?,h];rfl
theorem yyCy {ds:List Deferred} {d i:Nat} (v:Value) (h:d≠i):(Act.put ⟨tmps,ds⟩ (some d) v).tmps[i]? = tmps[i]?:=by
 simp only [Act.put]
 rw [Array.getElem?_setIfInBounds_ne h]
theorem ykHy {ds:List Deferred} {d:Nat} (v:Value) (h:d < tmps.size):(Act.put ⟨tmps,ds⟩ (some d) v).tmps[d]? = some v:=by
 simp only [Act.put]
 rw [Array.getElem?_setIfInBounds_self_of_lt h]
theorem ygiy {E:Env A} {us:Array Value} (h:Pins E us tmps) {d:Nat} (hd:∀ i∈E.pin,i≠d) (v:Value) (ds:List Deferred):Pins E us (Act.put ⟨tmps,ds⟩ (some d) v).tmps:=fun i hi=>by
 rw [yyCy v (Ne.symm (hd i hi))];exact h i hi
theorem yoEy {ops:Array Oper} {l:List (Nat×Oper)} (hl:∀ p∈l,p∈yggy ops):∀ p∈l,ops[p.1]? = some p.2:=fun p hp=>yiey p (hl p hp)
theorem ynny {T:Ty A} (h:Rel T w0 F0 X γ φ av w tmps S):tmps.size = S.fr.length:=by
 have:=h.fr.len
 simpa using this
theorem ywQy (t:Array Value) (v:Value) (h:t[0]? = some v) (P:Program) (w:World):(Instr.extract (.tuple t) 0).run P w = .ok v w:=by
 simp [Instr.extract,h]
theorem ytoy {E:Env A} {p:RangeP} (hf:p.Fine) {Q:Exit→Act→World→Prop} {r:Nat} (hi:tmps[p.it]? = some (.pointer (some ⟨r,0,none⟩))) {tup:Array Value} {v:Value} {w':World} (htn:p.tn < tmps.size)
  (hrun:∀ ty,(Instr.next (.pointer (some ⟨r,0,none⟩)) false ty).run E.P w = .ok (.tuple tup) w') (h0:tup[0]? = some v)
  (h:Q .normal (Act.put (Act.put ⟨tmps,[]⟩ (some p.tn) (.tuple tup)) (some p.te) v) w'):(Code.region p.idn p.opsN false).wp E.P Q ⟨tmps,[]⟩ w:=by
 obtain ⟨o1,o2,hN,a1,a2,a3,b1,b2,b3⟩:=hf.on
 refine wp_region ?_
 rw [hN]
 show wpOps E.P #[o1,o2] Q [0,1] _ _
 refine ygvy (o:=o1) rfl a3 (v:=.tuple tup) (w':=w') ?_ (ygvy (o:=o2) rfl b3 (v:=v) (w':=w') ?_ ?_)
 ·unfold execOp
  simp only [a1]
  rw [yo7y,yghy hi]
  simp [hrun]
 ·unfold execOp
  simp only [b1,a2]
  have:Act.eval (Act.put ⟨tmps,[]⟩ (some p.tn) (.tuple tup)) (.tmp p.tn) = .tuple tup:=yghy (ykHy _ htn)
  rw [this]
  simp [ywQy tup v h0]
 ·rw [a2,b2]
  simpa [wpOps] using h
theorem yzby {ops:Array Oper} (h:0 < ops.size):List.range ops.size = 0::(((yggy ops).drop 1).map (·.1)++[]):=by
 rw [List.append_nil]
 have:(yggy ops).map (·.1) = List.range ops.size:=yfgy
 rw [List.map_drop,this]
 obtain ⟨n,hn⟩:∃ n,ops.size = n + 1:=⟨ops.size - 1,by omega⟩
 rw [hn,List.range_succ_eq_map]
 rfl
theorem yAsy {ops:Array Oper} (h:0 < ops.size):List.range ops.size = ((yggy ops).take (ops.size - 1)).map (·.1)++[ops.size - 1]:=by
 have:(yggy ops).map (·.1) = List.range ops.size:=yfgy
 rw [List.map_take,this]
 obtain ⟨n,hn⟩:∃ n,ops.size = n + 1:=⟨ops.size - 1,by omega⟩
 rw [hn,List.range_succ]
 simp
theorem yzpy (E:Env A) (hE:EnvOk E) (hC:yahy E.C) (hmx:E.P.follows .mixedOrders = true) (n:Nat) (p:RangeP) (hf:p.Fine) (hap:p.apart E.pin = true) (hcut:yasy (pinE E p) n p.rest)
  {us0 us:Array Value} {b r tg k e:Nat} {es:Array MapEntry} {clock:Nat} {m:List (A k×A e)} (hx:Fixed E p w0 F0 us0 us b r es clock m) (L:Nat→ybRy A)
  (h0:∀ left S (R:Type) (K:Ex→St A→Option R),L 0 tg k e m left S K = none)
  (hs:∀ j left S (R:Type) (K:Ex→St A→Option R),L (j + 1) tg k e m left S K = none ∨ L (j + 1) tg k e m left S K = ymfy E n p tg k e m left S (fun l S'=>L j tg k e m l S' K) K)
  (j:Nat) (left:List (A k×A e)) (S:St A) (tmps:Array Value) (w:World) (K:Ex→St A→Option R) (Q:Exit→Act→World→Prop) (hh:Head E p w0 F0 X us b r es clock left w tmps S) (hk:L j tg k e m left S K = some res)
  (hq:∀ ex S' tmps' w',K ex S' = some res→Rels E w0 F0 X us0 w' tmps' S'→Q ex.toExit ⟨tmps',[]⟩ w'):(Code.block p.B (.loop p.body)).wp E.P Q ⟨tmps,[]⟩ w:=by
 obtain ⟨ap1,ap2,ap3,ap4,ap5,ap6,ap7,ap8⟩:=yuFy hap
 have hE':EnvOk (pinE E p):=⟨hE.ty,hE.tab,hE.flat,hE.keys,hE.sp⟩
 have pin_tn:∀ i∈(pinE E p).pin,i≠p.tn:=fun i hi=>by
  simp only [pinE,List.mem_cons] at hi
  rcases hi with rfl | rfl | hi
  ·exact Ne.symm ap3
  ·exact Ne.symm ap4
  ·exact (ap1 i hi).2.1
 have pin_te:∀ i∈(pinE E p).pin,i≠p.te:=fun i hi=>by
  simp only [pinE,List.mem_cons] at hi
  rcases hi with rfl | rfl | hi
  ·exact Ne.symm ap5
  ·exact Ne.symm ap6
  ·exact (ap1 i hi).2.2.1
 have pin_tk:∀ i∈(pinE E p).pin,i≠p.tk:=fun i hi=>by
  simp only [pinE,List.mem_cons] at hi
  rcases hi with rfl | rfl | hi
  ·exact Ne.symm ap7
  ·exact Ne.symm ap8
  ·exact (ap1 i hi).2.2.2
 have leave:∀ ex (S':St A) tmps' w' γ φ av,Rel E.T w0 F0 X γ φ av w' tmps' S'→Apart γ φ av S' (Both b r)→Pins (pinE E p) us tmps'→w'.heap[b]? = some (.map es clock)→yjTy E p tg m ex S' K = some res→Q ex.toExit ⟨tmps',[]⟩ w':=by
  intro ex S' tmps' w' γ φ av hR hA hp hb hk
  obtain ⟨S'',h1,h2⟩:=(yzky hx tg hR hA hp hb).canonAt hk
  exact hq _ _ _ _ h1 h2
 refine wp_block ?_
 refine ypty (n:=j) (fun j a w=>a.defers = []∧∃ left S,Head E p w0 F0 X us b r es clock left w a.tmps S∧L j tg k e m left S K = some res)
  (fun a w h=>by obtain ⟨_,left,S,_,h⟩:=h;rw [h0] at h;cases h) ?_ ⟨rfl,left,S,hh,hk⟩
 clear hh hk
 rintro j ⟨tm,ds⟩ w1 ⟨hds,left,S,hh,hk⟩
 simp only at hds
 subst hds
 rcases hs j left S R K with hk' | hk'
 ·rw [hk'] at hk;cases hk
 rw [hk'] at hk
 obtain ⟨⟨γ,φ,av,hR,hA⟩,hpins,hb,seen,hit,hrep⟩:=hh
 simp only at hR hpins
 unfold ymfy at hk
 cases hc:decide (p.tn < S.fr.length)&&decide (p.te < S.fr.length) with
 | false=>rw [hc] at hk;cases hk
 | true =>
  rw [hc] at hk
  simp only [cond_true] at hk
  simp only [Bool.and_eq_true,decide_eq_true_eq] at hc
  have hlen:=ynny hR
  have htn:p.tn < tm.size:=by omega
  have hte:p.te < tm.size:=by omega
  have hi:tm[p.it]? = some (.pointer (some ⟨r,0,none⟩)):=(hpins p.it (by simp [pinE])).trans hx.hi
  have hte':∀ v,p.te < (Act.put ⟨tm,[]⟩ (some p.tn) v).tmps.size:=fun v=>by simpa [Act.put] using hte
  refine wp_seq ?_
  rcases yEqy (P:=E.P) w1 0 r b clock clock seen es clock hit hb hx.st.2 (Nat.le_refl _) with ⟨hz,hrun⟩ | ⟨en,hen,n',hn',hrun⟩
  ·-- nothing is left
   have hnil:(leftOf es seen).toList = []:=by
    have:=Array.eq_empty_of_size_eq_zero hz
    rw [this]
   rw [hnil] at hrep
   obtain rfl:=yGay hrep
   rw [yooy] at hk
   refine ytoy hf hi htn (fun ty=>hrun) (v:=.bool false) rfl ?_
   simp only [Exit.then]
   refine wp_seq (wp_cond_false (yghy (ykHy _ (hte' _))) (wp_exit ?_))
   simp only [Exit.then,Exit.inBlock,if_true]
   refine leave .normal _ _ _ γ φ av ((hR.putO (some p.tn) (x:=.undef) (v:=.tuple #[.bool false]) trivial []).putO (some p.te) (x:=.d (.bool false)) (v:=.bool false) (by simp only [RAV,DR.bool]) []) hA
    (ygiy (ygiy hpins pin_tn _ _) pin_te _ _) hb hk
  ·-- an entry
   have hne:=yJBy hen hrep
   rcases ywdy hk with ⟨rfl,_⟩ | ⟨_,hpick⟩
   ·exact absurd rfl hne
   have hnd:((leftOf es seen).toList.map (·.born)).Nodup:=by
    unfold leftOf
    rw [Array.toList_filter]
    exact hx.st.1.sublist (List.filter_sublist.map _)
   obtain ⟨p0,hp0,hrep0,hrepl⟩:=yu4y hrep hnd hen
   have hk0:=hpick p0 hp0
   refine ytoy hf hi htn (fun ty=>hrun) (v:=.bool true) rfl ?_
   simp only [Exit.then]
   refine wp_seq (wp_cond_true (yghy (ykHy _ (hte' _))) (wp_skip ?_))
   simp only [Exit.then]
   refine wp_block (wp_seq (wp_region ?_))
   rw [yzby hf.e0]
   have hR1:=hR.aside hA (r:=r) (.inr rfl) hx.fr hn' (.mapIter (some b) clock (seen.push en.born) clock)
   have hrlt:r < w1.heap.size:=hR.avlt r (hA r (.inr rfl)).1
   have hit2:({ w1 with drawn:=n',heap:=w1.heap.setIfInBounds r (.mapIter (some b) clock (seen.push en.born) clock) }:World).heap[r]? = some (.mapIter (some b) clock (seen.push en.born) clock):=by simp [hrlt]
   have hb2:({ w1 with drawn:=n',heap:=w1.heap.setIfInBounds r (.mapIter (some b) clock (seen.push en.born) clock) }:World).heap[b]? = some (.map es clock):=by
    show (w1.heap.setIfInBounds r _)[b]? = _
    rw [Array.getElem?_setIfInBounds,if_neg (Ne.symm hx.ne)];exact hb
   generalize ({ w1 with drawn:=n',heap:=w1.heap.setIfInBounds r (.mapIter (some b) clock (seen.push en.born) clock) }:World) = w2 at hR1 hit2 hb2 ⊢
   obtain ⟨o3,ho3,c1,c2,c3⟩:=hf.oe
   have hR2:=(hR1.putO (some p.tn) (x:=.undef) (v:=.tuple #[.bool true,en.key,en.val]) trivial []).putO (some p.te) (x:=.d (.bool true)) (v:=.bool true) (by simp only [RAV,DR.bool]) []
   have hp2:=ygiy (ygiy hpins pin_tn (.tuple #[.bool true,en.key,en.val]) []) pin_te (.bool true) []
   have hi2:=(hp2 p.it (by simp [pinE])).trans hx.hi
   have hent:=yAJy (P:=E.P) w2 r b clock seen es clock en hit2 hb2 (mem_left hen).1 hx.st.1
   have hA2:Apart γ φ av ((S.put (some p.tn) .undef).put (some p.te) (.d (.bool true))) (Both b r):=hA
   refine ygvy (o:=o3) ho3 c3 (v:=.tuple #[en.key,en.val]) (w':=w2) ?_ ?_
   ·unfold execOp
    simp only [c1]
    have:Act.eval (Act.put (Act.put ⟨tm,[]⟩ (some p.tn) (.tuple #[.bool true,en.key,en.val])) (some p.te) (.bool true)) (.tmp p.it) = .pointer (some ⟨r,0,none⟩):=yghy hi2
    rw [this]
    simp [hent]
   ·rw [c2]
    have hR3:=hR2.putO (some p.tk) (x:=.tup [yaWy E.T k p0.1.1,yaWy E.T e p0.1.2]) (v:=.tuple #[en.key,en.val]) (by
     simp only [RAV,RAVs]
     exact ⟨_,rfl,_,_,rfl,ydKy hE.ty _ (hrep0 w2 av).1,_,_,rfl,ydKy hE.ty _ (hrep0 w2 av).2,rfl⟩) []
    have hp3:=ygiy hp2 pin_tk (.tuple #[en.key,en.val]) []
    have hB:=hR3.rebase (Y:=Both b r) hA2
    refine yjoy (pinE E p) hE' (us:=us) [] (yoEy fun q hq=>List.drop_subset _ _ hq) ⟨⟨γ,φ,av,hB⟩,hp3⟩ hk0 (fun S4 tmps4 w4 h1 h2=>?_)
    simp only [wpOps,Exit.then]
    obtain ⟨S5,h3,h4⟩:=h2.canonAt h1
    refine yi8y (pinE E p) hE' hC hmx n p.rest hcut S5 _ tmps4 w4 _ h3 h4 (fun ex S6 tmps6 w6 h5 h6=>?_)
    have back:∀ (S7:St A),Rels (pinE E p) w2 (AllOf φ (((S.put (some p.tn) .undef).put (some p.te) (.d (.bool true))).put (some p.tk) (.tup [yaWy E.T k p0.1.1,yaWy E.T e p0.1.2]))) (fun c=>X c ∨ Both b r c) us w6 tmps6 S7→∃ γ' φ' av',Rel E.T w0 F0 X γ' φ' av' w6 tmps6 S7∧Apart γ' φ' av' S7 (Both b r)∧Pins (pinE E p) us tmps6∧w6.heap[b]? = some (.map es clock)∧w6.heap[r]? = some (.mapIter (some b) clock (seen.push en.born) clock):=by
     rintro S7 ⟨⟨γ',φ',av',hR'⟩,hp'⟩
     obtain ⟨g1,g2,g3⟩:=hR3.unbase hR'
     exact ⟨γ',φ',av',g1,g2,hp',(g3 b (.inl rfl)).trans hb2,(g3 r (.inr rfl)).trans hit2⟩
    have again:canonAt (E.loopH p.idn) S6 (fun S5=>L j tg k e m p0.2 S5 K) = some res→∃ left' S',Head E p w0 F0 X us b r es clock left' w6 tmps6 S'∧L j tg k e m left' S' K = some res:=by
     intro h7
     obtain ⟨S7,h8,h9⟩:=h6.canonAt h7
     obtain ⟨γ',φ',av',g1,g2,g3,g4,g5⟩:=back S7 h9
     exact ⟨p0.2,S7,⟨⟨γ',φ',av',g1,g2⟩,g3,g4,seen.push en.born,g5,by rw [yxiy];exact hrepl⟩,h8⟩
    have off:∀ ex,yjTy E p tg m ex S6 K = some res→Q ex.toExit ⟨tmps6,[]⟩ w6:=by
     intro ex h7
     obtain ⟨γ',φ',av',g1,g2,g3,g4,g5⟩:=back S6 h6
     exact leave ex S6 tmps6 w6 γ' φ' av' g1 g2 g3 g4 h7
    cases ex with
    | normal =>
     simp only [Ex.toExit,Exit.inBlock,Exit.then]
     exact ⟨trivial,again h5⟩
    | ret =>
     simp only [Ex.toExit,Exit.inBlock,Exit.then]
     exact off .ret h5
    | exit i =>
     simp only at h5
     simp only [Ex.toExit,Exit.inBlock]
     split at h5
     ·rename_i hi
      rw [if_pos hi]
      simp only [Exit.then]
      exact ⟨trivial,again h5⟩
     ·rename_i hi
      rw [if_neg hi]
      simp only [Exit.then,Exit.inBlock]
      split at h5
      ·rename_i hi
       rw [if_pos hi]
       exact off .normal h5
      ·rename_i hi
       rw [if_neg hi]
       exact off (.exit i) h5
def ROk (E:Env A) (CR:Nat→Option (ybRy A)) (n:Nat) (p:RangeP):Prop:=yasy (pinE E p) n p.rest∧∀ f,CR p.idn = some f→∃ (L:Nat→ybRy A) (j:Nat),f = L j ∧
 (∀ tg k e (m left:List (A k×A e)) S (R:Type) (K:Ex→St A→Option R),L 0 tg k e m left S K = none) ∧
 ∀ j tg k e (m left:List (A k×A e)) S,(∀ (R:Type) (K:Ex→St A→Option R),L (j + 1) tg k e m left S K = none) ∨ ∀ (R:Type) (K:Ex→St A→Option R),L (j + 1) tg k e m left S K = ymfy E n p tg k e m left S (fun l S'=>L j tg k e m l S' K) K
def ybFy (E:Env A) (CR:Nat→Option (ybRy A)) (n:Nat):Code→Prop
 | .seq a b=>match yd4y a b with | some p=>ROk E CR n p | none=>ybFy E CR n a∧ybFy E CR n b
 | .cond _ a b=>ybFy E CR n a∧ybFy E CR n b
 | .block _ b=>ybFy E CR n b
 | c=>yasy E n c
theorem yaBy.any {T:Ty A} {flat:Nat→Bool} (hf:yemy T flat) {k e:Nat} (hk:flat k = true) (he:flat e = true):∀ {es:List MapEntry} {m:List (A k×A e)},yaBy T w av k e es m→yaBy T w' av' k e es m
 | [],[],_=>trivial
 | x::xs,p::ps,hm=>by
  have pk:∀ {t:Nat} (ht:flat t = true) {x:A t} {v:Value},yaNy T w av t x v→yaNy T w' av' t x v:=by
   intro t ht x v h
   obtain ⟨us,h1,h2,h3⟩:=h
   refine ⟨us,h1,h2,fun j d hj=>?_⟩
   obtain ⟨u,hu,hd⟩:=h3 j d hj
   exact ⟨u,hu,hd.plain (hf t ht x d (List.mem_of_getElem? hj))⟩
  exact ⟨pk hk hm.1,pk he hm.2.1,yaBy.any hf hk he hm.2.2⟩
 | [],_::_,hm=>hm.elim
 | _::_,[],hm=>hm.elim
theorem ywXy (es:Array MapEntry):(leftOf es #[]).toList = es.toList:=by
 unfold leftOf
 simp
theorem yCwy {P:Program} {t:TypeId} (h:ypIy P t = true):∃ k e,P.underlying t = some (.map k e):=by
 unfold ypIy at h
 split at h
 ·rename_i hu;exact ⟨_,_,hu⟩
 ·cases h
theorem yu3y (E:Env A) (hE:EnvOk E) (hC:yahy E.C) (hmx:E.P.follows .mixedOrders = true) (n:Nat) (CR:Nat→Option (ybRy A)) (p:RangeP) (hf:p.Fine) (hok:ROk E CR n p) {us0:Array Value}
  (S:St A) (K:Ex→St A→Option R) (tmps:Array Value) (w:World) (Q:Exit→Act→World→Prop) (hk:yvoy E CR p S K = some res) (hr:Rels E w0 F0 X us0 w tmps S)
  (hq:∀ ex S' tmps' w',K ex S' = some res→Rels E w0 F0 X us0 w' tmps' S'→Q ex.toExit ⟨tmps',[]⟩ w'):(Code.seq (.region p.idx p.ops false) (.block p.B (.loop p.body))).wp E.P Q ⟨tmps,[]⟩ w:=by
 unfold yvoy at hk
 cases hap:p.apart E.pin&&ypIy E.P p.T with
 | false=>rw [hap] at hk;cases hk
 | true =>
  rw [hap] at hk
  simp only [cond_true] at hk
  rw [Bool.and_eq_true] at hap
  obtain ⟨hap,hmt⟩:=hap
  obtain ⟨kk,ee,hu⟩:=yCwy hmt
  obtain ⟨ap1,ap2,ap3,ap4,ap5,ap6,ap7,ap8⟩:=yuFy hap
  refine wp_seq (wp_region ?_)
  rw [yAsy hf.n0]
  refine yjoy E hE (us:=us0) [p.ops.size - 1] (yoEy fun q hq=>List.take_subset _ _ hq) hr hk (fun S1 tmps1 w1 h1 h2=>?_)
  obtain ⟨⟨γ,φ,av,hR⟩,hp⟩:=h2
  split at h1
  ·rename_i tg hms
   split at h1
   ·rename_i k e m hl
    cases hfl:E.flat k&&(E.flat e&&decide (p.it < S1.fr.length)) with
    | false=>rw [hfl] at h1;cases h1
    | true =>
     rw [hfl] at h1
     simp only [cond_true] at h1
     simp only [Bool.and_eq_true,decide_eq_true_eq] at hfl
     obtain ⟨hfk,hfe,hit⟩:=hfl
     have hlen:=ynny hR
     obtain ⟨o,ho,o1,o2,o3⟩:=hf.ox
     have hfr:S1.fr[p.ms]? = some (.mp tg):=by
      cases hx:S1.fr[p.ms]? with
      | none=>rw [hx] at hms;cases hms
      | some x=>rw [hx] at hms;simp only [Option.getD_some] at hms;rw [hms]
     obtain ⟨u,hu1,hu2⟩:=hR.fr.get hfr
     simp only [RAV] at hu2
     obtain ⟨hu3,_⟩:=hu2 _ hl
     have hob:=hR.ob tg _ hl
     simp only [ROb,RIV] at hob
     obtain ⟨b,es,clock,hg,hφ,hb,hmr,hst⟩:=hob
     have hmsv:tmps1[p.ms]? = some (.map (some b)):=by rw [← Array.getElem?_toList,hu1,hu3,hg]
     have hrun:=yBDy (P:=E.P) w1 p.T kk ee b es clock hu hb
     have hbt:b∈φ tg:=by rw [hφ];simp
     have hblt:b < w1.heap.size:=(hR.fp tg _ hl b hbt).2
     refine ygvy (o:=o) ho o3 (v:=.pointer (some ⟨w1.heap.size,0,none⟩)) (w':=w1.alloc (.mapIter (some b) clock #[] clock)) ?_ ?_
     ·unfold execOp
      simp only [o1]
      rw [yo7y,yghy hmsv]
      simp [hrun,-World.alloc_eq]
     ·rw [o2]
      simp only [wpOps,Exit.then]
      obtain ⟨φ',av',hR',hA⟩:=hR.beginM hl hg hφ (es:=es) (clock:=clock) (.mapIter (some b) clock #[] clock)
      have hR2:=hR'.putO (some p.it) (x:=.undef) (v:=.pointer (some ⟨w1.heap.size,0,none⟩)) trivial []
      have hA2:Apart γ φ' av' ({ fr:=S1.fr.set p.it .undef,st:=S1.st.set tg (some (.gone (2,0))) }:St A) (Both b w1.heap.size):=hA
      have hfix:Fixed E p w0 F0 us0 (Act.put ⟨tmps1,[]⟩ (some p.it) (.pointer (some ⟨w1.heap.size,0,none⟩))).tmps b w1.heap.size es clock m:=by
       refine ⟨ygiy hp (fun i hi=>(ap1 i hi).1) _ _,?_,ykHy _ (by omega),hst,(hR.fp tg _ hl b hbt).1,hR.left.size,by omega,fun w av=>yaBy.any hE.flat hfk hfe hmr⟩
       rw [yyCy _ (Ne.symm ap2)];exact hmsv
      have hB:=hR2.rebase (Y:=Both b w1.heap.size) hA2
      have hRs:Rels (pinE E p) (w1.alloc (.mapIter (some b) clock #[] clock)) _ (fun c=>X c ∨ Both b w1.heap.size c) (Act.put ⟨tmps1,[]⟩ (some p.it) (.pointer (some ⟨w1.heap.size,0,none⟩))).tmps
       (w1.alloc (.mapIter (some b) clock #[] clock)) (Act.put ⟨tmps1,[]⟩ (some p.it) (.pointer (some ⟨w1.heap.size,0,none⟩))).tmps ({ fr:=S1.fr.set p.it .undef,st:=S1.st.set tg (some (.gone (2,0))) }:St A):=⟨⟨γ,φ',av',hB⟩,fun i hi=>rfl⟩
      obtain ⟨S2,h3,⟨⟨γ2,φ2,av2,hR3⟩,hp3⟩⟩:=hRs.canonAt h1
      obtain ⟨g1,g2,g3⟩:=hR2.unbase hR3
      cases hcr:CR p.idn with
      | none=>rw [hcr] at h3;cases h3
      | some f =>
       rw [hcr] at h3
       simp only at h3
       obtain ⟨hcut,hL⟩:=hok
       obtain ⟨L,j,rfl,hL0,hLs⟩:=hL f hcr
       refine yzpy E hE hC hmx n p hf hap hcut hfix L (tg:=tg) (fun left S R K=>hL0 tg k e m left S R K) (fun j left S R K=>?_) j m S2 _ _ K Q ⟨⟨γ2,φ2,av2,g1,g2⟩,hp3,?_,#[],?_,?_⟩ h3 hq
       ·rcases hLs j tg k e m left S with h | h
        ·exact .inl (h R K)
        ·exact .inr (h R K)
       ·rw [ybdy w1 _ b hblt];exact hb
       ·exact ycBy w1 _
       ·intro w av
        rw [ywXy]
        exact yaBy.any hE.flat hfk hfe hmr
   ·cases h1
  ·cases h1
theorem yuLy (E:Env A) (hE:EnvOk E) (hC:yahy E.C) (hm:E.P.follows .mixedOrders = true) (CR:Nat→Option (ybRy A)) {us:Array Value} (n:Nat):∀ (c:Code),ybFy E CR n c→∀ (S:St A) (K:Ex→St A→Option R) (tmps:Array Value) (w:World) (Q:Exit→Act→World→Prop),
  ydHy E CR n c S K = some res→Rels E w0 F0 X us w tmps S→(∀ e S' tmps' w',K e S' = some res→Rels E w0 F0 X us w' tmps' S'→Q e.toExit ⟨tmps',[]⟩ w')→c.wp E.P Q ⟨tmps,[]⟩ w:=by
 intro c
 induction c with
 | seq a b iha ihb =>
  intro hc S K tmps w Q hk hr hq
  simp only [ydHy] at hk
  simp only [ybFy] at hc
  cases hro:yd4y a b with
  | some p =>
   rw [hro] at hk hc
   obtain ⟨rfl,rfl,hf⟩:=yAfy hro
   exact yu3y E hE hC hm n CR p hf hc S K tmps w Q hk hr hq
  | none =>
   rw [hro] at hk hc
   simp only at hk
   obtain ⟨hca,hcb⟩:=hc
   refine wp_seq (iha hca S _ tmps w _ hk hr (fun e S' tmps' w' h1 h2=>?_))
   cases e with
   | normal =>
    obtain ⟨S'',h3,h4⟩:=h2.canonAt h1
    exact ihb hcb S'' K _ _ Q h3 h4 hq
   | exit i=>exact hq (.exit i) S' _ _ h1 h2
   | ret=>exact hq .ret S' _ _ h1 h2
 | cond c a b iha ihb =>
  intro hc S K tmps w Q hk hr hq
  simp only [ydHy] at hk
  simp only [ybFy] at hc
  have hct:∃ t,yafy S.fr c = .d (.bool t):=by
   cases hv:yafy S.fr c with
   | d y=>rw [hv] at hk;cases y <;> first | exact ⟨_,rfl⟩ | cases hk
   | _=>rw [hv] at hk;cases hk
  obtain ⟨t,ht⟩:=hct
  rw [ht] at hk
  have hval:Act.eval ⟨tmps,[]⟩ c = .bool t:=by
   obtain ⟨⟨γ,φ,av,h1⟩,_⟩:=hr
   have:=h1.eval [] c
   rw [ht] at this
   simpa only [RAV,DR.bool] using this
  refine wp_cond hval ?_
  cases t with
  | true=>exact iha hc.1 S K _ _ Q hk hr hq
  | false=>exact ihb hc.2 S K _ _ Q hk hr hq
 | block id b ih =>
  intro hc S K tmps w Q hk hr hq
  simp only [ydHy] at hk
  simp only [ybFy] at hc
  refine wp_block (ih hc S _ tmps w _ hk hr (fun e S' tmps' w' h1 h2=>?_))
  cases e with
  | normal=>exact hq .normal S' _ _ h1 h2
  | ret=>exact hq .ret S' _ _ h1 h2
  | exit i =>
   simp only at h1
   simp only [Ex.toExit,Exit.inBlock]
   split at h1
   ·rename_i hi
    rw [if_pos hi]
    exact hq .normal S' _ _ h1 h2
   ·rename_i hi
    rw [if_neg hi]
    exact hq (.exit i) S' _ _ h1 h2
 | _=>intro hc S K tmps w Q hk hr hq;simp only [ydHy] at hk;simp only [ybFy] at hc;exact yi8y E hE hC hm n _ hc S K tmps w Q hk hr hq
theorem yu0y (E:Env A) (hE:EnvOk E) (hC:yahy E.C) (hm:E.P.follows .mixedOrders = true) (CR:Nat→Option (ybRy A)) {f:Nat} {fn:Func} {code:Code} (hf:E.P.funcs[f]? = some fn) (hb:fn.body = some code)
  (nst:Nat) (argTags:List Nat) (sh:List Shape) (n:Nat) (hcut:ybFy E CR n code):yany E.P E.T f (ymFy E CR fn code nst argTags sh n):=by
 intro args R k res hk w vs F av hargs hnd hav hlt hamb
 unfold ymFy at hk
 cases hp:yaLy 64 args argTags with
 | none=>simp [hp] at hk
 | some q =>
  obtain ⟨xs,u,fs⟩:=q
  simp only [hp] at hk
  cases hc:ycky argTags&&(argTags.all (fun t=>decide (t < nst))&&E.pin.all (fun i=>decide (i < xs.length))) with
  | false=>simp [hc] at hk
  | true =>
   simp only [hc,cond_true] at hk
   simp only [Bool.and_eq_true,List.all_eq_true,decide_eq_true_eq] at hc
   obtain ⟨hc1,hc2,hc3⟩:=hc
   have hc1:=ybYy hc1
   let S0:St A:={ fr:=[],st:=List.replicate nst none }
   have hl0:∀ t,S0.look t = none:=by
    intro t
    simp only [S0,St.look,List.getElem?_replicate]
    split <;> rfl
   have h0:Rel E.T w F (fun b=>av b∧b ∉ F) (fun _=>undef) (fun _=>[]) av w #[] S0:=by
    refine ⟨by simp [S0,RAVs],?_,?_,?_,?_,hlt,?_,fun b hb=>⟨hlt b hb.1,hb.2⟩,⟨rfl,⟨rfl,fun _=>Nat.le_refl _⟩,rfl,Nat.le_refl _,fun _ _ _=>rfl⟩,hamb⟩
    ·intro t o ho;rw [hl0] at ho;cases ho
    ·intro t o ho;rw [hl0] at ho;cases ho
    ·intro t o t' o' ho;rw [hl0] at ho;cases ho
    ·rintro b (hb | ⟨t,o,ho,_⟩)
     ·exact hb.1
     ·rw [hl0] at ho;cases ho
    ·intro t o ho;rw [hl0] at ho;cases ho
   have hocc0:∀ t,occSt t S0 = false:=by
    intro t
    unfold occSt
    simp only [S0,yady,Bool.false_or]
    induction nst with
    | zero=>rfl
    | succ m ih=>simp [occOb]
   obtain ⟨us0,g1,g2,g3,g4⟩:=(ycxy 64).2 _ _ _ _ _ hp
   obtain ⟨γ1,φ1,used,a1,a2,a3,a4,a5,a6,a7⟩:=(yeyy 64).2 _ _ _ _ _ _ _ S0 _ _ hp h0 hargs hnd
    ⟨hav,fun b hb hx=>hx.2 hb,fun b hb t o ho=>(by rw [hl0] at ho;cases ho),fun b hb=>⟨.inl hb,hlt b (hav b hb)⟩⟩ hc1 (fun t _=>hl0 t)
    (fun y hy=>⟨by simpa [S0] using hc2 y.1 (by rw [g1];simp [g4 y hy]),hocc0 _⟩)
   refine calls_of_wp hf hb (yuLy E hE hC hm CR (w0:=w) (F0:=F) (X:=fun b=>av b∧b ∉ F) (us:=vs.toArray) n code hcut _ _ _ w _ hk ⟨⟨γ1,φ1,av,?_⟩,?_⟩ (fun e S' tmps' w' h1 h2=>?_))
   ·-- the slots
    have hst:St.upd { fr:=xs++List.replicate (fn.ntmps - xs.length) .undef,st:=List.replicate nst none } u = { fr:=xs++List.replicate (fn.ntmps - xs.length) .undef,st:=(S0.upd u).st }:=by
     have key:∀ (u:Upd A) (fr fr':List (AV A)) (st:List (Option (Ob A))),St.upd { fr:=fr,st:=st } u = { fr:=fr,st:=(St.upd { fr:=fr',st:=st } u).st }:=by
      intro u
      induction u with
      | nil=>intro fr fr' st;rfl
      | cons x r ih=>intro fr fr' st;exact ih fr fr' _
     exact key u _ [] _
    rw [hst]
    refine ⟨?_,a2.ob,a2.nd,a2.disj,a2.avs,a2.avlt,a2.fp,a2.x,a2.left,a2.amb⟩
    have hrep:∀ m,RAVs E.T w av (S0.upd u).look γ1 (List.replicate m .undef) (List.replicate m undef):=by
     intro m
     induction m with
     | zero=>simp [RAVs]
     | succ m ih=>simp only [List.replicate_succ,RAVs];exact ⟨_,_,rfl,trivial,ih⟩
    have:=a3.append (hrep (fn.ntmps - xs.length))
    rw [a3.len.symm] at this ⊢
    have htl:(vs.toArray++Array.replicate (fn.ntmps - vs.toArray.size) undef).toList = vs++List.replicate (fn.ntmps - vs.length) undef:=by simp
    show RAVs E.T w av (S0.upd u).look γ1 _ _
    rw [htl]
    exact this
   ·intro i hi
    have hlt':i < vs.length:=by rw [a3.len];exact hc3 i hi
    simp [Array.getElem?_append,hlt']
   ·have hlen:xs.length = vs.toArray.size:=by simpa using a3.len.symm
    cases e with
    | normal =>
     simp only [hlen] at h1
     obtain ⟨v,h3,r,args',F1,F2,av',h4,h5,h6,h7,h8,h9,h10⟩:=yc0y E h2 h1
     exact ⟨rfl,v,h3,r,args',v,F1,F2,av',h4,rfl,h5,by simpa using h6,h7,h8,h9,h10⟩
    | ret =>
     simp only [hlen] at h1
     obtain ⟨v,h3,r,args',F1,F2,av',h4,h5,h6,h7,h8,h9,h10⟩:=yc0y E h2 h1
     exact ⟨rfl,v,h3,r,args',v,F1,F2,av',h4,rfl,h5,by simpa using h6,h7,h8,h9,h10⟩
    | exit i=>cases h1
end Go.Am
set_option linter.unusedVariables false
set_option linter.unusedSimpArgs false
namespace Go.Am
open Go
variable {A:Nat→Type}
def ydmy (tg0 k0 e0:Nat) (sh:SSt) (lp:List (A k0×A e0)→List (A k0×A e0)→LPT A):ybRy A:=fun tg k e m left S _ K =>
 if tg = tg0 then match castM (k':=k0) (e':=e0) m,castM (k':=k0) (e':=e0) left with | some m,some l=>yajy sh (lp m l) S K | _,_=>none else none
abbrev yyby (E:Env A) (n0:Nat) (p:RangeP) (tg k e:Nat) (sh:SSt) (lp:Nat→List (A k×A e)→List (A k×A e)→LPT A) (n:Nat):Prop:=∀ m left ps,(∀ (R:Type) (K:Ex→St A→Option R),lp (n + 1) m left ps K = none) ∨ ∀ (R:Type) (K:Ex→St A→Option R),lp (n + 1) m left ps K =
 onS sh ps fun S=>ymfy E n0 p tg k e m left S (fun l S'=>yajy sh (lp n m l) S' K) K
theorem yqEy {k e:Nat} (m:List (A k×A e)):castM (k':=k) (e':=e) m = some m:=by unfold castM;rw [dif_pos ⟨rfl,rfl⟩]
theorem yzdy {E:Env A} {CR:Nat→Option (ybRy A)} {n:Nat} {p:RangeP} {tg0 k0 e0:Nat} (sh:SSt) (lp:Nat→List (A k0×A e0)→List (A k0×A e0)→LPT A) (he:CR p.idn = some (ydmy tg0 k0 e0 sh (lp n)))
  (hc:yasy (pinE E p) n p.rest) (h0:∀ m left ps (R:Type) (K:Ex→St A→Option R),lp 0 m left ps K = none) (hs:∀ j,yyby E n p tg0 k0 e0 sh lp j):ROk E CR n p:=by
 refine ⟨hc,fun f hf=>?_⟩
 rw [he] at hf
 obtain rfl:=Option.some.inj hf
 refine ⟨fun j=>ydmy tg0 k0 e0 sh (lp j),n,rfl,fun tg k e m left S R K=>?_,fun j tg k e m left S=>?_⟩
 ·show ydmy tg0 k0 e0 sh (lp 0) tg k e m left S K = none
  unfold ydmy
  split
  ·split
   ·unfold yajy
    split
    ·exact h0 _ _ _ _ _
    ·rfl
   ·rfl
  ·rfl
 ·show (∀ (R:Type) (K:Ex→St A→Option R),ydmy tg0 k0 e0 sh (lp (j + 1)) tg k e m left S K = none) ∨ ∀ (R:Type) (K:Ex→St A→Option R),ydmy tg0 k0 e0 sh (lp (j + 1)) tg k e m left S K = ymfy E n p tg k e m left S (fun l S'=>ydmy tg0 k0 e0 sh (lp j) tg k e m l S' K) K
  by_cases ht:tg = tg0
  ·subst ht
   by_cases hk:k = k0∧e = e0
   ·obtain ⟨rfl,rfl⟩:=hk
    have red:∀ j (l:List (A k×A e)) S' (R:Type) (K:Ex→St A→Option R),ydmy tg k e sh (lp j) tg k e m l S' K = yajy sh (lp j m l) S' K:=by
     intro j l S' R K
     unfold ydmy
     rw [if_pos rfl,yqEy,yqEy]
    cases hd:decSt sh S with
    | none=>exact .inl fun R K=>by rw [red,ydBy hd]
    | some ps =>
     rcases hs j m left ps with h | h
     ·exact .inl fun R K=>by rw [red,ybLy hd,h]
     ·refine .inr fun R K=>?_
      rw [red,ybLy hd,h]
      unfold onS
      rw [yi2y hd]
      simp only [red]
   ·refine .inl fun R K=>?_
    unfold ydmy
    rw [if_pos rfl]
    have:castM (k':=k0) (e':=e0) m = none:=by unfold castM;rw [dif_neg hk]
    rw [this]
  ·refine .inl fun R K=>?_
   unfold ydmy
   rw [if_neg ht]
def ydTy:Code→List Code
 | .seq a b=>match yd4y a b with | some _=>[] | none=>ydTy a++ydTy b
 | .cond _ a b=>ydTy a++ydTy b
 | .block _ b=>ydTy b
 | .loop b=>ybfy b++[b]
 | _=>[]
def ycCy:Code→List RangeP
 | .seq a b=>match yd4y a b with | some p=>[p] | none=>ycCy a++ycCy b
 | .cond _ a b=>ycCy a++ycCy b
 | .block _ b=>ycCy b
 | _=>[]
def yjFy (E:Env A) (CR:Nat→Option (ybRy A)) (n:Nat) (l:List RangeP):Prop:=∀ p∈l,ROk E CR n p
theorem yjFy.nil {E:Env A} {CR:Nat→Option (ybRy A)} {n:Nat}:yjFy E CR n []:=fun _ h=>by cases h
theorem yjFy.cons {E:Env A} {CR:Nat→Option (ybRy A)} {n:Nat} {p:RangeP} {l:List RangeP} (h:ROk E CR n p) (t:yjFy E CR n l):yjFy E CR n (p::l):=by
 intro q hq
 rcases List.mem_cons.1 hq with rfl | hq
 ·exact h
 ·exact t q hq
theorem yJey {E:Env A} {CR:Nat→Option (ybRy A)} {n:Nat} (hS:∀ i,E.cutS i = none):∀ (c:Code),(∀ b∈ydTy c,yaiy E n b)→(∀ p∈ycCy c,ROk E CR n p)→ybFy E CR n c:=by
 intro c
 induction c with
 | seq a b iha ihb =>
  intro h hr
  simp only [ybFy]
  simp only [ydTy] at h
  simp only [ycCy] at hr
  cases hro:yd4y a b with
  | some p=>rw [hro] at hr;exact hr p (by simp)
  | none =>
   rw [hro] at h hr
   simp only [List.mem_append] at h hr
   exact ⟨iha (fun x hx=>h x (.inl hx)) (fun x hx=>hr x (.inl hx)),ihb (fun x hx=>h x (.inr hx)) (fun x hx=>hr x (.inr hx))⟩
 | cond c a b iha ihb =>
  intro h hr
  simp only [ydTy,List.mem_append] at h
  simp only [ycCy,List.mem_append] at hr
  exact ⟨iha (fun x hx=>h x (.inl hx)) (fun x hx=>hr x (.inl hx)),ihb (fun x hx=>h x (.inr hx)) (fun x hx=>hr x (.inr hx))⟩
 | block id b ih=>intro h hr;exact ih (fun x hx=>h x (by simpa [ydTy] using hx)) (fun x hx=>hr x (by simpa [ycCy] using hx))
 | loop b ih =>
  intro h hr
  simp only [ybFy]
  exact yeVy hS (.loop b) (fun x hx=>h x (by simpa [ydTy,ybfy] using hx))
 | _=>intro _ _;simp only [ybFy];exact yeVy hS _ (fun b hb=>by simp [ybfy] at hb)
theorem cutsR {E:Env A} {CR:Nat→Option (ybRy A)} {n:Nat} {c:Code} {l:List Code} {ps:List RangeP} (hS:∀ i,E.cutS i = none) (hf:FineL E n l) (hp:yjFy E CR n ps) (hl:ydTy c = l) (hr:ycCy c = ps):ybFy E CR n c :=
 yJey hS c (by rw [hl];exact hf) (by rw [hr];exact hp)
def decK {α R:Type} (dec:IV A×List (IV A)→Option α) (p:IV A×List (IV A)) (k:α→Option R) (els:Option R):Option R:=match dec p with | some q=>k q | none=>els
theorem yyky {α R:Type} {dec:IV A×List (IV A)→Option α} {inj:α→IV A×List (IV A)} (hi:∀ p q,dec p = some q→p = inj q) {p:IV A×List (IV A)} {k:IV A→List (IV A)→Option R} {els:Option R} {res:R}
  (he:els = some res→k p.1 p.2 = some res) (h:decK dec p (fun q=>k (inj q).1 (inj q).2) els = some res):k p.1 p.2 = some res:=by
 unfold decK at h
 cases hd:dec p with
 | none=>rw [hd] at h;exact he h
 | some q=>rw [hd] at h;rw [hi p q hd];exact h
theorem yyty {α R:Type} {dec:IV A×List (IV A)→Option α} {inj:α→IV A×List (IV A)} {p:IV A×List (IV A)} {k:IV A→List (IV A)→Option R} {els:Option R} {els':Option (IV A×List (IV A))}
  (he:els = els'.bind fun p=>k p.1 p.2):decK dec p (fun q=>k (inj q).1 (inj q).2) els = (decK dec p (fun q=>some (inj q)) els').bind fun p=>k p.1 p.2:=by
 unfold decK
 cases dec p with
 | none=>exact he
 | some q=>rfl
def Whole (S B:Spec A):Prop:=∀ args (R:Type) (k:IV A→List (IV A)→Option R) res,S args k = some res→∃ p,B args (fun r ys=>some (r,ys)) = some p∧k p.1 p.2 = some res
theorem yH8y {P:Program} {T:Ty A} {kt ft:Nat→Bool} {st:Nat→Option (Sp A)} (h:Std P T kt ft st) {C:List (Nat×Spec A)} (ht:TabOk P T C) {E:Env A} (hE:E.P = P∧E.T = T∧E.C = (fun f=>C.lookup f)∧E.keyed = kt∧E.flat = ft∧E.sp = st) {CR:Nat→Option (ybRy A)} {f:Nat} {fn:Func} {code:Code}
  {nst:Nat} {tags:List Nat} {sh:List Shape} {n:Nat} {B S:Spec A} (hs:Same B (ymFy E CR fn code nst tags sh n)) (hw:Whole S B) (na:yaIy S) (hc:ybFy E CR n code) (hf:P.funcs[f]? = some fn) (hn:(fn.name == "runtime.NumGoroutine") = false) (hb:fn.body = some code):OkF P T f S:=by
 obtain ⟨hP,hT,hEC,hk,hfl,hst⟩:=hE
 subst hP hT hk hfl hst
 have hC:yahy E.C:=by rw [hEC];exact ht.nat
 have hO:EnvOk E:=⟨h.ty,by rw [hEC];exact ymWy fun p hp=>⟨(ht p hp).fs,(ht p hp).en⟩,h.flat,h.keys,h.sp⟩
 refine ⟨fun args R k res hk=>?_,na,enters_of hf hn (by rw [hb];rfl)⟩
 obtain ⟨p,h1,h2⟩:=hw args R k res hk
 have hfs:=yu0y E hO hC h.mixed CR hf hb nst tags sh n hc
 intro w vs F av a1 a2 a3 a4 a5
 have h3:ymFy E CR fn code nst tags sh n args (fun r ys=>some (r,ys)) = some p:=by
  rcases hs args with hh | hh
  ·rw [hh] at h1;cases h1
  ·rw [hh] at h1;exact h1
 refine Calls.mono (hfs args _ _ p h3 w vs F av a1 a2 a3 a4 a5) ?_
 rintro e w' ⟨r,args',v,F1,F2,av',b1,b2⟩
 simp only [Option.some.injEq] at b1
 subst b1
 exact ⟨r,args',v,F1,F2,av',h2,b2⟩
end Go.Am
