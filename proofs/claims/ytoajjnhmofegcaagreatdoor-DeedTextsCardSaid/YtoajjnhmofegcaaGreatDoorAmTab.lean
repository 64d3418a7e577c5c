/- Part of an abstract machine for this program, with its soundness: AmTab. No condition: lemmas for the claim. -/
import Derived.Test.YtoajjnhmofegcaaGreatDoorAmLoop
set_option linter.unusedVariables false
set_option linter.unusedSimpArgs false
namespace Go.Am
open Go
variable {A:Nat→Type}
def TabL (P:Program) (T:Ty A) (l:List (Nat×Spec A)):Prop:=∀ p∈l,yany P T p.1 p.2∧ybEy P p.1
theorem TabL.nil {P:Program} {T:Ty A}:TabL P T []:=fun _ h=>by cases h
theorem TabL.cons {P:Program} {T:Ty A} {f:Nat} {s:Spec A} {l:List (Nat×Spec A)} (h:yany P T f s) (he:ybEy P f) (t:TabL P T l):TabL P T ((f,s)::l):=by
 intro p hp
 rcases List.mem_cons.1 hp with rfl | hp
 ·exact ⟨h,he⟩
 ·exact t p hp
def NatL (l:List (Nat×Spec A)):Prop:=∀ p∈l,yaIy p.2
theorem NatL.nil:NatL ([]:List (Nat×Spec A)):=fun _ h=>by cases h
theorem NatL.cons {f:Nat} {s:Spec A} {l:List (Nat×Spec A)} (h:yaIy s) (t:NatL l):NatL ((f,s)::l):=by
 intro p hp
 rcases List.mem_cons.1 hp with rfl | hp
 ·exact h
 ·exact t p hp
def FineL (E:Env A) (n:Nat) (bs:List Code):Prop:=∀ b∈bs,yaiy E n b
theorem FineL.nil {E:Env A} {n:Nat}:FineL E n []:=fun _ h=>by cases h
theorem FineL.cons {E:Env A} {n:Nat} {b:Code} {bs:List Code} (h:yaiy E n b) (t:FineL E n bs):FineL E n (b::bs):=by
 intro c hc
 rcases List.mem_cons.1 hc with rfl | hc
 ·exact h
 ·exact t c hc
def SeqL (E:Env A) (n:Nat) (bs:List Code):Prop:=∀ b∈bs,yxQy E n b
theorem SeqL.nil {E:Env A} {n:Nat}:SeqL E n []:=fun _ h=>by cases h
theorem SeqL.cons {E:Env A} {n:Nat} {b:Code} {bs:List Code} (h:yxQy E n b) (t:SeqL E n bs):SeqL E n (b::bs):=by
 intro c hc
 rcases List.mem_cons.1 hc with rfl | hc
 ·exact h
 ·exact t c hc
theorem yFly {E:Env A} {n:Nat} {b:Code} (L:Nat→Piece A) (he:(yagy b).bind E.cutL = some (L n)) (hC:yahy E.C) (hc:yasy E n b)
  (h0:∀ (R:Type) S (K:Ex→St A→Option R),L 0 S K = none)
  (hs:∀ m S,(∀ (R:Type) (K:Ex→St A→Option R),L (m + 1) S K = none) ∨ ∀ (R:Type) (K:Ex→St A→Option R),L (m + 1) S K =
   yb1y (fun S _ K=>aexec E n b S K) ((yagy b).bind E.loopH) ((yagy b).bind E.exitH) S (fun e S'=>match e with | .normal=>L m S' K | e=>K e S')):yaiy E n b:=by
 intro f hf
 rw [he] at hf
 obtain rfl:=Option.some.inj hf
 have h:=yFxy (body:=yb1y (fun S _ K=>aexec E n b S K) ((yagy b).bind E.loopH) ((yagy b).bind E.exitH)) (yhwy (fun R S K=>ydOy E hC n b hc R S K) _ _) h0 hs n
 exact ⟨h.1,fun S p hp=>⟨n,h.2 S p hp⟩⟩
def Same (S B:Spec A):Prop:=∀ args,(∀ (R:Type) (k:IV A→List (IV A)→Option R),S args k = none) ∨ ∀ (R:Type) (k:IV A→List (IV A)→Option R),S args k = B args k
theorem fs_of {P:Program} {T:Ty A} (E:Env A) (hP:E.P = P) (hT:E.T = T) (hE:EnvOk E) (hC:yahy E.C) (hm:P.follows .mixedOrders = true) {f:Nat} {fn:Func} {code:Code} (hf:P.funcs[f]? = some fn) (hb:fn.body = some code)
  (nst:Nat) (tags:List Nat) (sh:List Shape) (n:Nat) (hcut:yasy E n code) {S:Spec A} (h:Same S (abody E fn code nst tags sh n)):yany P T f S:=by
 subst hP hT
 intro args R k res hk
 rcases h args with h | h
 ·rw [h] at hk;cases hk
 ·rw [h] at hk
  exact yxoy E hE hC hm hf hb nst tags sh n hcut args R k res hk
theorem na_of (E:Env A) (hC:yahy E.C) (fn:Func) (code:Code) (nst:Nat) (tags:List Nat) (sh:List Shape) (n:Nat) (hcut:yasy E n code) {S:Spec A} (h:Same S (abody E fn code nst tags sh n)):yaIy S:=by
 intro args R k
 rcases h args with h | h
 ·rw [h,h];rfl
 ·rw [h,h]
  exact yBAy E hC fn code nst tags sh n hcut args R k
def orS (p:List (IV A)→Bool) (s t:Spec A):Spec A:=fun args _ k=>bif p args then s args k else t args k
theorem fs_or {P:Program} {T:Ty A} {f:Nat} {p:List (IV A)→Bool} {s t:Spec A} (hs:yany P T f s) (ht:yany P T f t):yany P T f (orS p s t):=by
 intro args R k res hk
 unfold orS at hk
 cases hp:p args with
 | true=>rw [hp] at hk;exact hs args R k res hk
 | false=>rw [hp] at hk;exact ht args R k res hk
theorem na_or {p:List (IV A)→Bool} {s t:Spec A} (hs:yaIy s) (ht:yaIy t):yaIy (orS p s t):=by
 intro args R k
 unfold orS
 cases p args with
 | true=>exact hs args R k
 | false=>exact ht args R k
abbrev LPT (A:Nat→Type):=List (Pv A)→{R:Type}→(Ex→St A→Option R)→Option R
def yajy (sh:SSt) (lp:LPT A):Piece A:=fun S _ K=>match decSt sh S with | some ps=>lp ps K | none=>none
def onS (sh:SSt) (ps:List (Pv A)) {R:Type} (f:St A→Option R):Option R:=match encSt sh ps with | some S=>f S | none=>none
def mkSt (nt ns:Nat) (fr:List (Nat×AV A)) (st:List (Nat×Option (Ob A))):St A:={ fr:=ypQy .undef nt fr,st:=ypQy none ns st }
def mkSh (nt ns:Nat) (fr:List (Nat×SV)) (st:List (Nat×SO)):SSt:={ fr:=ypQy .undef nt fr,st:=ypQy .none ns st }
theorem ybLy {sh:SSt} {lp:LPT A} {S:St A} {ps:List (Pv A)} (h:decSt sh S = some ps) {R:Type} (K:Ex→St A→Option R):yajy sh lp S K = lp ps K:=by
 unfold yajy;rw [h]
theorem ydBy {sh:SSt} {lp:LPT A} {S:St A} (h:decSt sh S = none) {R:Type} (K:Ex→St A→Option R):yajy sh lp S K = none:=by
 unfold yajy;rw [h]
abbrev yaCy (E:Env A) (n0:Nat) (b:Code) (sh:SSt) (lp:Nat→LPT A) (n:Nat):Prop:=∀ ps,(∀ (R:Type) (K:Ex→St A→Option R),lp (n + 1) ps K = none) ∨ ∀ (R:Type) (K:Ex→St A→Option R),lp (n + 1) ps K =
 onS sh ps fun S=>yb1y (fun S _ K=>aexec E n0 b S K) ((yagy b).bind E.loopH) ((yagy b).bind E.exitH) S (fun e S'=>match e with | .normal=>yajy sh (lp n) S' K | e=>K e S')
theorem yamy {E:Env A} {n:Nat} {b:Code} (sh:SSt) (lp:Nat→LPT A) (he:(yagy b).bind E.cutL = some (yajy sh (lp n))) (hC:yahy E.C) (hc:yasy E n b)
  (h0:∀ ps (R:Type) (K:Ex→St A→Option R),lp 0 ps K = none) (hs:∀ m,yaCy E n b sh lp m):yaiy E n b:=by
 refine yFly (fun m=>yajy sh (lp m)) he hC hc (fun R S K=>?_) (fun m S=>?_)
 ·cases hd:decSt sh S with
  | none=>exact ydBy hd K
  | some ps=>rw [ybLy hd];exact h0 ps R K
 ·cases hd:decSt sh S with
  | none=>exact .inl (fun R K=>ydBy hd K)
  | some ps =>
   rcases hs m ps with h | h
   ·exact .inl (fun R K=>(ybLy hd K).trans (h R K))
   ·refine .inr (fun R K=>(ybLy hd K).trans ((h R K).trans ?_))
    unfold onS
    rw [yi2y hd]
theorem ynpy {E:Env A} {n:Nat} {b:Code} (he:(yagy b).bind E.cutL = none):yaiy E n b:=fun f hf=>by rw [he] at hf;cases hf
theorem cuts0 {E:Env A} {n:Nat} {c:Code} (hS:∀ i,E.cutS i = none) (hl:ybfy c = []):yasy E n c:=yeVy hS c (by rw [hl];exact fun _ h=>by cases h)
theorem cutsL {E:Env A} {n:Nat} {c:Code} {l:List Code} (hS:∀ i,E.cutS i = none) (hf:FineL E n l) (hl:ybfy c = l):yasy E n c:=yeVy hS c (by rw [hl];exact hf)
structure OkF (P:Program) (T:Ty A) (f:Nat) (S:Spec A):Prop where
 fs:yany P T f S
 na:yaIy S
 en:ybEy P f
def TabOk (P:Program) (T:Ty A) (l:List (Nat×Spec A)):Prop:=∀ p∈l,OkF P T p.1 p.2
theorem TabOk.nil {P:Program} {T:Ty A}:TabOk P T []:=fun _ h=>by cases h
theorem TabOk.cons {P:Program} {T:Ty A} {f:Nat} {s:Spec A} {l:List (Nat×Spec A)} (h:OkF P T f s) (t:TabOk P T l):TabOk P T ((f,s)::l):=by
 intro p hp
 rcases List.mem_cons.1 hp with rfl | hp
 ·exact h
 ·exact t p hp
theorem TabOk.nat {P:Program} {T:Ty A} {l:List (Nat×Spec A)} (h:TabOk P T l):yahy (fun f=>l.lookup f):=yGIy fun p hp=>(h p hp).na
theorem ok_or {P:Program} {T:Ty A} {f:Nat} (p:List (IV A)→Bool) {s t:Spec A} (hs:OkF P T f s) (ht:OkF P T f t):OkF P T f (orS p s t):=⟨fs_or hs.fs ht.fs,na_or hs.na ht.na,hs.en⟩
structure Std (P:Program) (T:Ty A) (kt ft:Nat→Bool) (st:Nat→Option (Sp A)):Prop where
 ty:TyOk P T
 flat:yemy T ft
 keys:∀ k,kt k = true→KeyOk P T k∧∃ kd,P.underlying k = some kd
 sp:∀ f s,st f = some s→SpOk P T f s
 mixed:P.follows .mixedOrders = true
theorem yacy {P:Program} {T:Ty A} {kt ft:Nat→Bool} {st:Nat→Option (Sp A)} (h:Std P T kt ft st) {C:List (Nat×Spec A)} (ht:TabOk P T C) {E:Env A} (hE:E.P = P∧E.T = T∧E.C = (fun f=>C.lookup f)∧E.keyed = kt∧E.flat = ft∧E.sp = st) {f:Nat} {fn:Func} {code:Code}
  {nst:Nat} {tags:List Nat} {sh:List Shape} {n:Nat} {S:Spec A} (hs:Same S (abody E fn code nst tags sh n)) (hc:yasy E n code) (hf:P.funcs[f]? = some fn) (hn:(fn.name == "runtime.NumGoroutine") = false) (hb:fn.body = some code):OkF P T f S:=by
 obtain ⟨hP,hT,hEC,hk,hfl,hst⟩:=hE
 subst hP hT hk hfl hst
 have hC:yahy E.C:=by rw [hEC];exact ht.nat
 have hO:EnvOk E:=⟨h.ty,by rw [hEC];exact ymWy fun p hp=>⟨(ht p hp).fs,(ht p hp).en⟩,h.flat,h.keys,h.sp⟩
 exact ⟨fs_of E rfl rfl hO hC h.mixed hf hb nst tags sh n hc hs,na_of E hC fn code nst tags sh n hc hs,enters_of hf hn (by rw [hb];rfl)⟩
end Go.Am
