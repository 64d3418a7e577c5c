/- Part of an abstract machine for this program, with its soundness: AmLoop. No condition: lemmas for the claim. -/
import Derived.Test.YtoajjnhmofegcaaGreatDoorAmShape
set_option linter.unusedVariables false
set_option linter.unusedSimpArgs false
namespace Go.Am
open Go
variable {A:Nat→Type}
theorem yFxy {body:Piece A} (hb:ycIy body) {L:Nat→Piece A} (h0:∀ (R:Type) S (K:Ex→St A→Option R),L 0 S K = none)
  (hs:∀ n S,(∀ (R:Type) (K:Ex→St A→Option R),L (n + 1) S K = none) ∨ ∀ (R:Type) (K:Ex→St A→Option R),L (n + 1) S K = body S (fun e S'=>match e with | .normal=>L n S' K | e=>K e S')) :
  ∀ n,ycIy (L n)∧∀ S p,L n S pairE = some p→aloop (fun S K=>body S K) n S pairE = some p:=by
 intro n
 induction n with
 | zero=>exact ⟨fun R S K=>by rw [h0,h0];rfl,fun S p h=>by rw [h0] at h;cases h⟩
 | succ n ih =>
  refine ⟨fun R S K=>?_,fun S p h=>?_⟩
  ·rcases hs n S with h | h
   ·rw [h,h];rfl
   ·rw [h R,h (Ex×St A),hb R]
    conv=>rhs;rw [hb (Ex×St A),Option.bind_assoc]
    congr 1
    funext q
    obtain ⟨e,S'⟩:=q
    cases e with
    | normal=>exact ih.1 R S' K
    | exit i=>rfl
    | ret=>rfl
  ·rcases hs n S with h' | h'
   ·rw [h'] at h;cases h
   ·rw [h'] at h
    simp only [aloop]
    refine hb.mono h (fun e S' hk=>?_)
    cases e with
    | normal=>exact ih.2 S' p hk
    | exit i=>exact hk
    | ret=>exact hk
theorem ymWy {P:Program} {T:Ty A} {l:List (Nat×Spec A)} (h:∀ p∈l,yany P T p.1 p.2∧ybEy P p.1):ylhy P T (fun f=>l.lookup f):=by
 intro f s hs
 induction l with
 | nil=>cases hs
 | cons p l ih =>
  obtain ⟨g,t⟩:=p
  simp only [List.lookup] at hs
  split at hs
  ·rename_i he
   have:f = g:=by simpa using he
   subst this
   cases hs
   exact h (f,s) (by simp)
  ·exact ih (fun p hp=>h p (by simp [hp])) hs
theorem yGIy {l:List (Nat×Spec A)} (h:∀ p∈l,yaIy p.2):yahy (fun f=>l.lookup f):=by
 intro f s hs
 induction l with
 | nil=>cases hs
 | cons p l ih =>
  obtain ⟨g,t⟩:=p
  simp only [List.lookup] at hs
  split at hs
  ·cases hs;exact h (g,s) (by simp)
  ·exact ih (fun p hp=>h p (by simp [hp])) hs
def sub:List Nat→Code→Code
 | [],c=>c
 | 0::r,.seq a _=>sub r a
 | 1::r,.seq _ b=>sub r b
 | 0::r,.cond _ a _=>sub r a
 | 1::r,.cond _ _ b=>sub r b
 | 0::r,.block _ b=>sub r b
 | 0::r,.loop b=>sub r b
 | _,_=>.skip
def ybfy:Code→List Code
 | .seq a b=>ybfy a++ybfy b
 | .cond _ a b=>ybfy a++ybfy b
 | .block _ b=>ybfy b
 | .loop b=>ybfy b++[b]
 | _=>[]
def yaiy (E:Env A) (n:Nat) (b:Code):Prop:=∀ f:Piece A,(yagy b).bind E.cutL = some f→ycIy f∧∀ S p,f S pairE = some p →
 ∃ m,aloop (fun S K=>yb1y (fun S _ K=>aexec E n b S K) ((yagy b).bind E.loopH) ((yagy b).bind E.exitH) S K) m S pairE = some p
theorem yeVy {E:Env A} {n:Nat} (hS:∀ i,E.cutS i = none):∀ (c:Code),(∀ b∈ybfy c,yaiy E n b)→yasy E n c:=by
 intro c
 induction c with
 | seq a b iha ihb =>
  intro h
  simp only [ybfy,List.mem_append] at h
  refine ⟨iha (fun x hx=>h x (.inl hx)),ihb (fun x hx=>h x (.inr hx)),fun f hf=>?_⟩
  cases hb:yagy b with
  | none=>rw [hb] at hf;cases hf
  | some i=>rw [hb] at hf;simp only [Option.bind_some,hS] at hf;cases hf
 | cond c a b iha ihb =>
  intro h
  simp only [ybfy,List.mem_append] at h
  exact ⟨iha (fun x hx=>h x (.inl hx)),ihb (fun x hx=>h x (.inr hx))⟩
 | block id b ih=>intro h;exact ih (fun x hx=>h x (by simpa [ybfy] using hx))
 | loop b ih =>
  intro h
  simp only [ybfy,List.mem_append,List.mem_singleton] at h
  exact ⟨ih (fun x hx=>h x (.inl hx)),fun f hf=>h b (.inr rfl) f hf⟩
 | _=>intro _;trivial
def yxQy (E:Env A) (n:Nat) (b:Code):Prop:=∀ f:Piece A,(yagy b).bind E.cutS = some f→ycIy f∧∀ S p,f S pairE = some p →
 (aexec E n b S fun e S'=>canonAt ((yagy b).bind E.exitS) S' fun S1=>pairE e S1) = some p
theorem enters_of {P:Program} {f:Nat} {fn:Func} (hf:P.funcs[f]? = some fn) (hn:(fn.name == "runtime.NumGoroutine") = false) (hb:fn.body.isNone = false):ybEy P f:=by
 intro args w
 have hn':¬ fn.name = "runtime.NumGoroutine" := by simpa using hn
 have hb':¬ fn.body = none:=by intro h;simp [h] at hb
 simp [callFunc,hf,hn',hb']
def Good (T:Ty A) (d d':D A):Prop:=∀ (w:World) (av:Nat→Prop) v,DR T w av d v→DR T w av d' v
def OkL (T:Ty A) (cs ds:List (D A)):Prop:=cs.length = ds.length∧∀ (w:World) (av:Nat→Prop) (j:Nat) d,cs[j]? = some d→∃ d',ds[j]? = some d'∧∀ v,DR T w av d v→DR T w av d' v
theorem OkL.nil {T:Ty A}:OkL T ([]:List (D A)) []:=⟨rfl,fun w av j d h=>by simp at h⟩
theorem OkL.cons {T:Ty A} {c d:D A} {cs ds:List (D A)} (h:Good T c d) (t:OkL T cs ds):OkL T (c::cs) (d::ds):=by
 refine ⟨by simp [t.1],fun w av j x hx=>?_⟩
 cases j with
 | zero=>simp at hx;subst hx;exact ⟨d,rfl,fun v=>h w av v⟩
 | succ j=>exact t.2 w av j x (by simpa using hx)
def dInt (k:IntKind):D A→Option Int
 | .int k' n=>if k' = k then some n else none
 | _=>none
def dBool:D A→Option Bool
 | .bool b=>some b
 | _=>none
def dStr:D A→Option (List UInt8)
 | .str s=>some s
 | _=>none
def dSl (e:Nat):D A→Option (List (A e))
 | .sl e' xs=>castL (e':=e) xs
 | .nsl=>some []
 | _=>none
theorem gInt {T:Ty A} {k:IntKind} {c:D A} {n:Int} (h:dInt k c = some n):Good T c (.int k n):=by
 cases c <;> simp only [dInt] at h <;> (try cases h;done)
 split at h
 ·rename_i hk;cases h;subst hk;exact fun _ _ _ h=>h
 ·cases h
theorem gBool {T:Ty A} {c:D A} {b:Bool} (h:dBool c = some b):Good T c (.bool b):=by
 cases c <;> simp only [dBool] at h <;> (try cases h;done)
 cases h;exact fun _ _ _ h=>h
theorem gStr {T:Ty A} {c:D A} {s:List UInt8} (h:dStr c = some s):Good T c (.str s):=by
 cases c <;> simp only [dStr] at h <;> (try cases h;done)
 cases h;exact fun _ _ _ h=>h
theorem gSl {T:Ty A} {e:Nat} {c:D A} {xs:List (A e)} (h:dSl e c = some xs):Good T c (.sl e xs):=by
 cases c <;> simp only [dSl] at h <;> (try cases h;done)
 ·obtain ⟨he,hx⟩:=yiwy h
  subst he
  subst hx
  exact fun _ _ _ h=>h
 ·cases h
  intro w av v hv
  rw [DR.nsl] at hv
  subst hv
  exact DR.of_row (.inl rfl) (Nat.zero_le _) (fun hne=>absurd rfl hne)
end Go.Am
