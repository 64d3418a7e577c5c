/- Part of an abstract machine for this program, with its soundness: AmRange. No condition: lemmas for the claim. -/
import Derived.Test.YtkcbebmbmffkjaaGreatDoorAmTab
import Derived.Laws.IdiomRangeMap
set_option linter.unusedVariables false
set_option linter.unusedSimpArgs false
namespace Go.Am
open Go
variable {A:Nat→Type}
def picks {α:Type}:List α→List (α×List α)
 | []=>[]
 | x :: xs=>(x,xs) :: (picks xs).map fun p=>(p.1,x :: p.2)
open Classical in
noncomputable def yKyy {α R:Type} (l:List α) (over:Option R) (f:α→List α→Option R):Option R :=
 match l with
 | []=>over
 | x :: xs=>if h:∃ r,∀ p ∈ picks (x :: xs),f p.1 p.2 = some r then some h.choose else none
structure RangeP where
 idx:Nat
 ops:Array Oper
 it:Nat
 T:TypeId
 ms:Nat
 B:Nat
 idn:Nat
 opsN:Array Oper
 tn:Nat
 te:Nat
 C:Nat
 ide:Nat
 opsE:Array Oper
 tk:Nat
 rest:Code
def RangeP.body (p:RangeP):Code:=.seq (.region p.idn p.opsN false) (.seq (.cond (.tmp p.te) .skip (.exit p.B)) (.block p.C (.seq (.region p.ide p.opsE false) p.rest)))
structure RangeP.Fine (p:RangeP):Prop where
 n0:0 < p.ops.size
 ox:∃ o,p.ops[p.ops.size - 1]? = some o∧o.op = .range p.T (.tmp p.ms)∧o.dst = some p.it∧o.guard = none
 on:∃ o1 o2,p.opsN = #[o1,o2]∧o1.op = .next (.tmp p.it) false∧o1.dst = some p.tn∧o1.guard = none∧o2.op = .extract (.tmp p.tn) 0∧o2.dst = some p.te∧o2.guard = none
 e0:0 < p.opsE.size
 oe:∃ o,p.opsE[0]? = some o∧o.op = .entry (.tmp p.it)∧o.dst = some p.tk∧o.guard = none
abbrev ynLy (A:Nat→Type):=(tg k e:Nat)→(m left:List (A k×A e))→St A→{R:Type}→(Ex→St A→Option R)→Option R
def pinE (E:Env A) (p:RangeP):Env A:={ E with pin:=p.ms :: p.it :: E.pin }
def yG1y (p:RangeP) (tg:Nat) {k e:Nat} (m:List (A k×A e)) (S:St A):St A :=
 match S.look tg,(S.fr[p.ms]?).getD .undef with
 | some (.gone kd),.mp t=>if t = tg∧kd = (2,0) then { S with st:=S.st.set tg (some (.mp k e m)) } else S
 | _,_=>S
def yrvy (E:Env A) (p:RangeP) (tg:Nat) {k e:Nat} (m:List (A k×A e)) (ex:Ex) (S:St A) {R:Type} (K:Ex→St A→Option R):Option R:=canonAt (E.exitH p.idn) (yG1y p tg m S) fun S'=>K ex S'
def yMMy (ops:Array Oper):List (Nat×Oper):=ops.toList.zipIdx.map fun (o,i)=>(i,o)
noncomputable def yP9y (E:Env A) (n:Nat) (p:RangeP) (tg k e:Nat) (m left:List (A k×A e)) (S:St A) {R:Type} (next:List (A k×A e)→St A→Option R) (K:Ex→St A→Option R):Option R :=
 bif decide (p.tn < S.fr.length) && decide (p.te < S.fr.length) then
  yKyy left (yrvy E p tg m .normal ((S.put (some p.tn) .undef).put (some p.te) (.d (.bool false))) K)
   fun x l=>regK (pinE E p) p.opsE.toList ((yMMy p.opsE).drop 1) (((S.put (some p.tn) .undef).put (some p.te) (.d (.bool true))).put (some p.tk) (.tup [ybCy E.T k x.1,ybCy E.T e x.2])) fun S2 =>
    canonAt ((yaiy p.rest).bind E.seqH) S2 fun S3 =>
     aexec (pinE E p) n p.rest S3 fun ex S4 =>
      match ex with
      | .normal=>canonAt (E.loopH p.idn) S4 fun S5=>next l S5
      | .exit i=>if i = p.C then canonAt (E.loopH p.idn) S4 fun S5=>next l S5 else if i = p.B then yrvy E p tg m .normal S4 K else yrvy E p tg m (.exit i) S4 K
      | .ret=>yrvy E p tg m .ret S4 K
 else none
end Go.Am
set_option linter.unusedVariables false
set_option linter.unusedSimpArgs false
namespace Go.Am
open Go
variable {A:Nat→Type}
variable {T:Ty A} {w0 w w':World} {F0:List Nat} {X:Nat→Prop} {γ γ':Nat→Value} {φ φ':Nat→List Nat} {av av':Nat→Prop} {tmps:Array Value} {S S':St A} {R:Type} {P:Program} {res:R}
def Apart (γ:Nat→Value) (φ:Nat→List Nat) (av:Nat→Prop) (S:St A) (Y:Nat→Prop):Prop:=∀ b,Y b→av b∧∀ t o,S.look t = some o→b ∉ φ t
def AllOf (φ:Nat→List Nat) (S:St A):List Nat:=(List.range S.st.length).flatMap fun t=>if (S.look t).isSome then φ t else []
theorem yeEy {b:Nat}:b ∈ AllOf φ S ↔ ∃ t o,S.look t = some o∧b ∈ φ t:=by
 unfold AllOf
 simp only [List.mem_flatMap,List.mem_range]
 constructor
 ·rintro ⟨t,ht,hb⟩
  split at hb
  ·rename_i hs
   obtain ⟨o,ho⟩:=Option.isSome_iff_exists.1 hs
   exact ⟨t,o,ho,hb⟩
  ·cases hb
 ·rintro ⟨t,o,ho,hb⟩
  exact ⟨t,ybwy ho,by rw [ho]; exact hb⟩
theorem Rel.rebase {Y:Nat→Prop} (h:Rel T w0 F0 X γ φ av w tmps S) (hY:Apart γ φ av S Y):Rel T w (AllOf φ S) (fun b=>X b ∨ Y b) γ φ av w tmps S:=by
 refine ⟨h.fr,h.ob,h.nd,h.disj,?_,h.avlt,?_,?_,⟨rfl,ycJy.refl _ _,rfl,Nat.le_refl _,fun _ _ _=>rfl⟩,h.ambNow (fun b hb=>?_)⟩
 ·rintro b ((hb | hb) | hb)
  ·exact h.avs b (.inl hb)
  ·exact (hY b hb).1
  ·exact h.avs b (.inr hb)
 ·intro t o ho b hb
  exact ⟨.inl (yeEy.2 ⟨t,o,ho,hb⟩),(h.fp t o ho b hb).2⟩
 ·rintro b (hb | hb)
  ·refine ⟨Nat.lt_of_lt_of_le (h.x b hb).1 h.left.size,fun hm=>?_⟩
   obtain ⟨t,o,ho,hbt⟩:=yeEy.1 hm
   exact h.notX ho hbt hb
  ·refine ⟨h.avlt b (hY b hb).1,fun hm=>?_⟩
   obtain ⟨t,o,ho,hbt⟩:=yeEy.1 hm
   exact (hY b hb).2 t o ho hbt
 ·obtain ⟨t,o,ho,hbt⟩:=yeEy.1 hb
  exact (h.fp t o ho b hbt).1
theorem Rel.unbase {Y:Nat→Prop} {w1:World} {S1:St A} {tmps1:Array Value} {γ1:Nat→Value} {φ1:Nat→List Nat} {av1:Nat→Prop} (h:Rel T w0 F0 X γ1 φ1 av1 w1 tmps1 S1) (h':Rel T w1 (AllOf φ1 S1) (fun b=>X b ∨ Y b) γ φ av w tmps S) :
  Rel T w0 F0 X γ φ av w tmps S∧Apart γ φ av S Y∧(∀ b,Y b→w.heap[b]? = w1.heap[b]?):=by
 have hF:∀ b ∈ AllOf φ1 S1,b ∈ F0 ∨ w0.heap.size≤b:=by
  intro b hb
  obtain ⟨t,o,ho,hbt⟩:=yeEy.1 hb
  exact (h.fp t o ho b hbt).1
 refine ⟨⟨h'.fr,h'.ob,h'.nd,h'.disj,?_,h'.avlt,?_,h.x,?_,h.amb⟩,?_,?_⟩
 ·rintro b (hb | hb)
  ·exact h'.avs b (.inl (.inl hb))
  ·exact h'.avs b (.inr hb)
 ·intro t o ho b hb
  obtain ⟨h1,h2⟩:=h'.fp t o ho b hb
  refine ⟨?_,h2⟩
  rcases h1 with h1 | h1
  ·exact hF b h1
  ·exact .inr (Nat.le_trans h.left.size h1)
 ·obtain ⟨a1,a2,a3,a4,a5⟩:=h.left
  obtain ⟨b1,b2,b3,b4,b5⟩:=h'.left
  refine ⟨b1.trans a1,a2.trans b2,b3.trans a3,Nat.le_trans a4 b4,fun i hi hn=>?_⟩
  rw [b5 i (Nat.lt_of_lt_of_le hi a4) (fun hm=>?_),a5 i hi hn]
  rcases hF i hm with hh | hh
  ·exact hn hh
  ·omega
 ·intro b hb
  exact ⟨h'.avs b (.inl (.inr hb)),fun t o ho hbt=>h'.notX ho hbt (.inr hb)⟩
 ·intro b hb
  exact h'.left.block b (h'.x b (.inr hb)).1 (h'.x b (.inr hb)).2
theorem Rel.aside {Y:Nat→Prop} (h:Rel T w0 F0 X γ φ av w tmps S) (hY:Apart γ φ av S Y) {r:Nat} (hr:Y r) (hx0:w0.heap.size≤r) {n:Nat} (hn:w.drawn≤n) (o:Obj) :
  Rel T w0 F0 X γ φ av { w with drawn:=n,heap:=w.heap.setIfInBounds r o } tmps S:=by
 have hh:∀ b,b ≠ r→(w.heap.setIfInBounds r o)[b]? = w.heap[b]?:=fun b hb=>by
  rw [Array.getElem?_setIfInBounds,if_neg (Ne.symm hb)]
 refine h.upd (fun _=>False) rfl ?_ (fun t _=>⟨rfl,rfl,rfl⟩) (fun t o' _ ho b hb=>?_) (fun t hf=>hf.elim) (fun t o hf=>hf.elim) (fun t o hf=>hf.elim)
  (fun t o t' o' hf=>hf.elim) h.avs (fun b hb=>by simpa using h.avlt b hb) (fun t o hf=>hf.elim) (by simp) ?_
 ·intro b o' hb ho
  refine ⟨?_,hb⟩
  show (w.heap.setIfInBounds r o)[b]? = some o'
  rw [hh b (fun e=>hb (e ▸ (hY r hr).1))]; exact ho
 ·show (w.heap.setIfInBounds r o)[b]? = _
  exact hh b (fun e=>(hY r hr).2 t o' ho (e ▸ hb))
 ·obtain ⟨a,b,c,d,e⟩:=h.left
  refine ⟨a,⟨b.1,fun hd=>Nat.le_trans (b.2 hd) hn⟩,c,by simpa using d,fun i hi hni=>?_⟩
  show (w.heap.setIfInBounds r o)[i]? = _
  rw [hh i (by omega)]; exact e i hi hni
end Go.Am
set_option linter.unusedVariables false
set_option linter.unusedSimpArgs false
namespace Go.Am
open Go
variable {A:Nat→Type}
variable {w0 w w':World} {F0:List Nat} {X:Nat→Prop} {γ γ':Nat→Value} {φ φ':Nat→List Nat} {av av':Nat→Prop} {tmps:Array Value} {S S':St A} {R:Type} {P:Program} {res:R}
theorem yHxy {ds:List Deferred} (i:Nat):Act.eval ⟨tmps,ds⟩ (.tmp i) = tmps.getD i undef:=rfl
theorem yM3y {i:Nat} {v:Value} (h:tmps[i]? = some v):tmps.getD i undef = v:=by rw [Array.getD_eq_getD_getElem?,h]; rfl
theorem yCky {T:Ty A} (h:Rel T w0 F0 X γ φ av w tmps S):tmps.size = S.fr.length:=by
 have:=h.fr.len
 simpa using this
def ROk (E:Env A) (CR:Nat→Option (ynLy A)) (n:Nat) (p:RangeP):Prop:=yaty (pinE E p) n p.rest∧∀ f,CR p.idn = some f→∃ (L:Nat→ynLy A) (j:Nat),f = L j ∧
 (∀ tg k e (m left:List (A k×A e)) S (R:Type) (K:Ex→St A→Option R),L 0 tg k e m left S K = none) ∧
 ∀ j tg k e (m left:List (A k×A e)) S,(∀ (R:Type) (K:Ex→St A→Option R),L (j + 1) tg k e m left S K = none) ∨ ∀ (R:Type) (K:Ex→St A→Option R),L (j + 1) tg k e m left S K = yP9y E n p tg k e m left S (fun l S'=>L j tg k e m l S' K) K
theorem yaPy.any {T:Ty A} {flat:Nat→Bool} (hf:yedy T flat) {k e:Nat} (hk:flat k = true) (he:flat e = true):∀ {es:List MapEntry} {m:List (A k×A e)},yaPy T w av k e es m→yaPy T w' av' k e es m
 | [],[],_=>trivial
 | x :: xs,p :: ps,hm=>by
  have pk:∀ {t:Nat} (ht:flat t = true) {x:A t} {v:Value},yaNy T w av t x v→yaNy T w' av' t x v:=by
   intro t ht x v h
   obtain ⟨us,h1,h2,h3⟩:=h
   refine ⟨us,h1,h2,fun j d hj=>?_⟩
   obtain ⟨u,hu,hd⟩:=h3 j d hj
   exact ⟨u,hu,hd.plain (hf t ht x d (List.mem_of_getElem? hj))⟩
  exact ⟨pk hk hm.1,pk he hm.2.1,yaPy.any hf hk he hm.2.2⟩
 | [],_ :: _,hm=>hm.elim
 | _ :: _,[],hm=>hm.elim
end Go.Am
set_option linter.unusedVariables false
set_option linter.unusedSimpArgs false
namespace Go.Am
open Go
variable {A:Nat→Type}
def ynEy (E:Env A) (CR:Nat→Option (ynLy A)) (n:Nat) (l:List RangeP):Prop:=∀ p ∈ l,ROk E CR n p
theorem ynEy.nil {E:Env A} {CR:Nat→Option (ynLy A)} {n:Nat}:ynEy E CR n []:=fun _ h=>by cases h
theorem ynEy.cons {E:Env A} {CR:Nat→Option (ynLy A)} {n:Nat} {p:RangeP} {l:List RangeP} (h:ROk E CR n p) (t:ynEy E CR n l):ynEy E CR n (p :: l):=by
 intro q hq
 rcases List.mem_cons.1 hq with rfl | hq
 ·exact h
 ·exact t q hq
def decK {α R:Type} (dec:IV A×List (IV A)→Option α) (p:IV A×List (IV A)) (k:α→Option R) (els:Option R):Option R:=match dec p with | some q=>k q | none=>els
theorem yLky {α R:Type} {dec:IV A×List (IV A)→Option α} {inj:α→IV A×List (IV A)} (hi:∀ p q,dec p = some q→p = inj q) {p:IV A×List (IV A)} {k:IV A→List (IV A)→Option R} {els:Option R} {res:R}
  (he:els = some res→k p.1 p.2 = some res) (h:decK dec p (fun q=>k (inj q).1 (inj q).2) els = some res):k p.1 p.2 = some res:=by
 unfold decK at h
 cases hd:dec p with
 | none=>rw [hd] at h; exact he h
 | some q=>rw [hd] at h; rw [hi p q hd]; exact h
theorem yM9y {α R:Type} {dec:IV A×List (IV A)→Option α} {inj:α→IV A×List (IV A)} {p:IV A×List (IV A)} {k:IV A→List (IV A)→Option R} {els:Option R} {els':Option (IV A×List (IV A))}
  (he:els = els'.bind fun p=>k p.1 p.2):decK dec p (fun q=>k (inj q).1 (inj q).2) els = (decK dec p (fun q=>some (inj q)) els').bind fun p=>k p.1 p.2:=by
 unfold decK
 cases dec p with
 | none=>exact he
 | some q=>rfl
def Whole (S B:Spec A):Prop:=∀ args (R:Type) (k:IV A→List (IV A)→Option R) res,S args k = some res→∃ p,B args (fun r ys=>some (r,ys)) = some p∧k p.1 p.2 = some res
end Go.Am
