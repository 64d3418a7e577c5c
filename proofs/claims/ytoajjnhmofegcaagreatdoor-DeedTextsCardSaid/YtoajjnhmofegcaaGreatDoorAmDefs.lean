/- Part of an abstract machine for this program, with its soundness: AmDefs. No condition: lemmas for the claim. -/
import Derived.Calls
import Derived.Below
import Derived.Laws.CopyRow
import Derived.Laws.StructEq
import Derived.Laws.IdiomCopy
import Derived.Lib.Builder
import Derived.Lib.UnsafeStr
namespace Go.Am
open Go
inductive D (A:Nat→Type):Type where
 | int (k:IntKind) (n:Int)
 | bool (b:Bool)
 | str (s:List UInt8)
 | sl (e:Nat) (xs:List (A e))
 | nsl
 | nilif
 | anyif
 | lit (v:Value)
 | clo (f e:Nat) (xs:List (A e)) -- a function that holds a slice,and itself
structure Ty (A:Nat→Type) where
 size:Nat→Nat
 enc:(e:Nat)→A e→List (D A)
 dec:(e:Nat)→List (D A)→Option (A e)
 agg:Nat→Bool:=fun _=>false
 dr:Bool:=false -- are the draws told?
 bld:Option (Nat×Nat):=none -- the types of a builder of strings,and of its bytes
 fix:List Nat:=[] -- blocks that nobody writes
 amb:World→Prop:=fun _=>True -- what they hold
 ambOk:∀ w w':World,(∀ b∈fix,w'.heap[b]? = w.heap[b]?)→amb w→amb w':=by exact fun _ _ _ h=>h
def Ty.day {A:Nat→Type} (T:Ty A):Ty A:={ size:=T.size,enc:=T.enc,dec:=T.dec,agg:=T.agg,dr:=true }
inductive IV (A:Nat→Type):Type where
 | undef
 | d (x:D A)
 | arr (e:Nat) (xs:List (A e))
 | agg (cs:List (IV A))
 | tup (cs:List (IV A))
 | box (cs:List (IV A))
 | fn (f:Nat) (cs:List (IV A))
 | mp (k e:Nat) (m:List (A k×A e))
 | cel (cells:List (D A)) (off:Nat)
inductive AV (A:Nat→Type):Type where
 | undef
 | d (x:D A)
 | agg (cs:List (AV A))
 | tup (cs:List (AV A))
 | own (e t:Nat)
 | ptr (t off:Nat)
 | elp (e t i off:Nat)
 | cel (cells:List (D A)) (off:Nat)
 | fn (f:Nat) (cs:List (AV A))
 | mp (t:Nat)
 | vw (e t:Nat) (lo hi:Int)
inductive Ob (A:Nat→Type):Type where
 | row (e:Nat) (xs:List (A e))
 | frz (e:Nat) (xs:List (A e))
 | box (cs:List (AV A))
 | mp (k e:Nat) (m:List (A k×A e))
 | bld (s:List UInt8)
 | gone (k:Nat×Nat)
def Ob.kind {A:Nat→Type}:Ob A→Nat×Nat
 | .row e _ | .frz e _=>(0,e)
 | .box _=>(1,0)
 | .bld _=>(1,0)
 | .mp _ _ _=>(2,0)
 | .gone k=>k
structure St (A:Nat→Type) where
 fr:List (AV A)
 st:List (Option (Ob A))
abbrev Spec (A:Nat→Type):=List (IV A)→{R:Type}→(IV A→List (IV A)→Option R)→Option R
variable {A:Nat→Type}
def yqxy (a:Option Addr):Prop:=a = none ∨ ∃ b o,a = some ⟨b,o,none⟩
def DRep (T:Ty A) (w:World) (av:Nat→Prop):Nat→D A→Value→Prop
 | _,.int k n,v=>v = .int k n
 | _,.bool b,v=>v = .bool b
 | _,.str s,v=>v = .string ⟨⟨s⟩⟩
 | _,.nsl,v=>v = .slice none 0 0
 | _,.nilif,v=>v = .nilIface
 | _,.anyif,v=>∃ t x,v = .iface t x
 | _,.lit u,v=>v = u∧u.oneCell' = true
 | 0,.clo _ _ _,_=>False
 | n + 1,.clo f e xs,v=>∃ b1 o1 c1 ty1 fz1 u b2 c2 ty2 fz2,v = .func (.func f) #[] #[.pointer (some ⟨b1,o1,none⟩),.pointer (some ⟨b2,0,none⟩)]∧¬ av b1∧w.heap[b1]? = some (.cells c1 ty1 fz1)∧c1[o1]? = some u∧DRep T w av n (.sl e xs) u ∧
   ¬ av b2∧w.heap[b2]? = some (.cells c2 ty2 fz2)∧c2[0]? = some v
 | 0,.sl _ xs,v=>xs = []∧∃ a cap,v = .slice a 0 cap∧yqxy a
 | n + 1,.sl e xs,v=>∃ a cap,v = .slice a xs.length cap∧yqxy a∧xs.length≤cap∧(xs≠[]→∃ b o c ty fz,a = some ⟨b,o,none⟩∧¬ av b∧w.heap[b]? = some (.cells c ty fz) ∧
   ∀ i x,xs[i]? = some x→∀ j d,(T.enc e x)[j]? = some d→∃ u,c[o + i * T.size e + j]? = some u∧DRep T w av n d u)
def DR (T:Ty A) (w:World) (av:Nat→Prop) (d:D A) (v:Value):Prop:=∃ n,DRep T w av n d v
def Row (T:Ty A) (w:World) (av:Nat→Prop) (c:Array Value) (o e:Nat) (xs:List (A e)):Prop :=
 ∀ i x,xs[i]? = some x→∀ j d,(T.enc e x)[j]? = some d→∃ u,c[o + i * T.size e + j]? = some u∧DR T w av d u
def OwnSl (T:Ty A) (w:World) (e n:Nat) (ob:Option Nat) (v:Value):Prop :=
 match ob with
 | none=>n = 0∧v = .slice none 0 0
 | some b=>∃ cap c ty,v = .slice (some ⟨b,0,none⟩) n cap∧n≤cap∧w.heap[b]? = some (.cells c ty (0,0))∧cap * T.size e≤c.size
def packV (agg:Bool) (us:Array Value) (v:Value):Prop:=match agg with | true=>v = .agg us | false=>us = #[v]
def yaNy (T:Ty A) (w:World) (av:Nat→Prop) (e:Nat) (x:A e) (v:Value):Prop :=
 ∃ us:Array Value,us.size = T.size e∧packV (T.agg e) us v∧∀ (j:Nat) d,(T.enc e x)[j]? = some d→∃ u,us[j]? = some u∧DR T w av d u
def yaBy (T:Ty A) (w:World) (av:Nat→Prop) (k e:Nat):List MapEntry→List (A k×A e)→Prop
 | [],[]=>True
 | x::xs,p::ps=>yaNy T w av k p.1 x.key∧yaNy T w av e p.2 x.val∧yaBy T w av k e xs ps
 | _,_=>False
def yb9y (es:Array MapEntry) (clock:Nat):Prop:=(es.toList.map (·.born)).Nodup∧∀ x∈es.toList,x.born < clock
structure Bld (w:World) (tb te b:Nat) (p v:Value) (s:List UInt8):Prop where
 blk:w.heap[b]? = some (.cells #[p,v] tb (0,0))
 own:p = .pointer none ∨ p = .pointer (some ⟨b,0,none⟩)
 row:w.ownsRow 0 te 1 v s.length (Lib.byteCells s)
 ne:v.ownBlock≠some b
 nil:s = []→v = .slice none 0 0
mutual
def RIV (T:Ty A) (w:World) (av:Nat→Prop):IV A→Value→List Nat→Prop
 | .undef,_,F=>F = []
 | .d x,v,F=>F = []∧DR T w av x v
 | .arr e xs,v,F=>∃ ob,F = ob.toList∧OwnSl T w e xs.length ob v∧∀ b,ob = some b→∃ c ty,w.heap[b]? = some (.cells c ty (0,0))∧Row T w av c 0 e xs
 | .agg cs,v,F=>∃ vs,v = .agg vs∧RIVs T w av cs vs.toList F
 | .tup cs,v,F=>∃ vs,v = .tuple vs∧RIVs T w av cs vs.toList F
 | .box cs,v,F=>∃ b c ty F',v = .pointer (some ⟨b,0,none⟩)∧F = b::F'∧w.heap[b]? = some (.cells c ty (0,0))∧RIVs T w av cs c.toList F'
 | .fn f cs,v,F=>∃ vs,v = .func (.func f) #[] vs∧RIVs T w av cs vs.toList F
 | .cel cells off,v,F=>F = []∧∃ b o c ty fz,v = .pointer (some ⟨b,o + off,none⟩)∧¬ av b∧w.heap[b]? = some (.cells c ty fz)∧∀ (j:Nat) d,cells[j]? = some d→∃ u,c[o + j]? = some u∧DR T w av d u
 | .mp k e m,v,F=>∃ b es clock,v = .map (some b)∧F = [b]∧w.heap[b]? = some (.map es clock)∧yaBy T w av k e es.toList m∧yb9y es clock
def RIVs (T:Ty A) (w:World) (av:Nat→Prop):List (IV A)→List Value→List Nat→Prop
 | [],vs,F=>vs = []∧F = []
 | x::xs,vs,F=>∃ v vs' F1 F2,vs = v::vs'∧F = F1++F2∧RIV T w av x v F1∧RIVs T w av xs vs' F2
end
def ycZy (T:Ty A) (w w':World):Prop:=w'.tape = w.tape∧(T.dr = true→w.drawn≤w'.drawn)
theorem ycZy.refl (T:Ty A) (w:World):ycZy T w w:=⟨rfl,fun _=>Nat.le_refl _⟩
theorem ycZy.trans {T:Ty A} {a b c:World} (h:ycZy T a b) (k:ycZy T b c):ycZy T a c:=⟨k.1.trans h.1,fun d=>Nat.le_trans (h.2 d) (k.2 d)⟩
structure Left (T:Ty A) (w w':World) (F:Nat→Prop):Prop where
 os:w'.os = w.os
 tape:ycZy T w w'
 output:w'.output = w.output
 size:w.heap.size≤w'.heap.size
 block:∀ b,b < w.heap.size→¬ F b→w'.heap[b]? = w.heap[b]?
def AmbF (T:Ty A) (w:World) (F:List Nat):Prop:=T.amb w∧∀ b∈T.fix,b < w.heap.size∧b ∉ F
def yany (P:Program) (T:Ty A) (f:Nat) (spec:Spec A):Prop :=
 ∀ args (R:Type) (k:IV A→List (IV A)→Option R) (res:R),spec args k = some res →
  ∀ (w:World) vs F (av:Nat→Prop),RIVs T w av args vs F→F.Nodup→(∀ b∈F,av b)→(∀ b,av b→b < w.heap.size)→AmbF T w F →
  Calls P f vs.toArray w fun e w'=>∃ r args' v F1 F2 av',k r args' = some res∧e = .returned v∧RIV T w' av' r v F1∧RIVs T w' av' args' vs F2∧(F1++F2).Nodup ∧
   (∀ b,(av b∧b ∉ F) ∨ b∈F1++F2→av' b)∧(∀ b∈F1++F2,(b∈F ∨ w.heap.size≤b)∧b < w'.heap.size)∧Left T w w' (·∈F)
abbrev Table (A:Nat→Type):=Nat→Option (Spec A)
def ybEy (P:Program) (f:Nat):Prop:=∀ args w,(callFunc f args).run P w = .ok (.enter f args) w
def ylhy (P:Program) (T:Ty A) (C:Table A):Prop:=∀ f s,C f = some s→yany P T f s∧ybEy P f
structure TyOk (P:Program) (T:Ty A):Prop where
 len:∀ e x,(T.enc e x).length = T.size e
 size:∀ e,0 < T.size e
 dec:∀ e cs x,T.dec e cs = some x→cs.length = T.size e∧∀ (w:World) (av:Nat→Prop) (j:Nat) d,cs[j]? = some d→∃ d',(T.enc e x)[j]? = some d'∧∀ v,DR T w av d v→DR T w av d' v
end Go.Am
