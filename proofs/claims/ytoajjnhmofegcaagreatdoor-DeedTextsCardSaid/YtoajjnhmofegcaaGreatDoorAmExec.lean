/- Part of an abstract machine for this program, with its soundness: AmExec. No condition: lemmas for the claim. -/
import Derived.Test.YtoajjnhmofegcaaGreatDoorAmDefs
set_option linter.unusedVariables false
namespace Go.Am
open Go
variable {A:Nat→Type}
structure Hint where
 keep:List Nat
 canon:List (Nat×Nat×Nat):=[]
 stay:List Nat:=[]
 boxes:List (Nat×Nat×Nat×Nat):=[] -- (box,cell,element type,tag)
 shut:List (Nat×Nat):=[] -- (box,cell): the slice in it becomes data
 data:List Nat:=[] -- slots: the slice becomes data
 cels:List Nat:=[] -- boxes that nobody writes from now on
inductive Ex where
 | normal | exit (id:Nat) | ret
abbrev Piece (A:Nat→Type):=St A→{R:Type}→(Ex→St A→Option R)→Option R
inductive Sp (A:Nat→Type) where
 | wrap (f1:Nat) (mp:Bool)
 | keys (f1:List Nat) (k:Nat) (srt:List (A k)→Option (List (A k)))
 | bwr | bln | bst -- what is written into a builder of strings,its length,its string
structure Env (A:Nat→Type) where
 P:Program
 T:Ty A
 C:Table A
 tg:Nat→List Nat                -- tags for what the operation with this slot makes
 seqH:Nat→Option Hint           -- ahead of the region
 loopH:Nat→Option Hint          -- at the loop whose body begins with the region
 mode:Nat→Nat→Bool            -- (function,argument): handed over to be written
 sp:Nat→Option (Sp A):=fun _=>none -- what is taken in another way
 keyed:Nat→Bool:=fun _=>false -- types of keys that are known
 flat:Nat→Bool:=fun _=>false -- element types that hold no slice
 exitH:Nat→Option Hint:=fun _=>none -- where the loop whose body begins with the region is left
 pin:List Nat:=[]               -- slots that are never written: the arguments to give back
 cutS:Nat→Option (Piece A):=fun _=>none -- what is known of the code that begins with the region
 exitS:Nat→Option Hint:=fun _=>none -- behind what is known of the code that begins with the region
 cutL:Nat→Option (Piece A):=fun _=>none -- what is known of the loop whose body begins with the region
def AV.cells:AV A→List (AV A)
 | .agg cs=>cs
 | v=>[v]
def const1:Value→AV A
 | .bool b=>.d (.bool b)
 | .int k n=>.d (.int k n)
 | .string s=>.d (.str s.data.toList)
 | .nilIface=>.d .nilif
 | .slice none 0 0=>.d .nsl
 | .agg _ | .tuple _=>.undef
 | v=>.d (.lit v)
def strOk (a b:List UInt8):Bool:=decide (a.length + b.length≤9223372036854775807)
def constAV:Value→AV A
 | .agg cs=>.agg (cs.toList.map const1)
 | v=>const1 v
def St.look (S:St A) (t:Nat):Option (Ob A):=(S.st[t]?).getD none
def St.put (S:St A) (dst:Option Nat) (v:AV A):St A :=
 match dst with
 | none=>S
 | some d=>{ S with fr:=S.fr.set d v }
abbrev Upd (A:Nat→Type):=List (Nat×Option (Ob A))
def St.upd (S:St A):Upd A→St A
 | []=>S
 | (t,o)::r=>St.upd { S with st:=S.st.set t o } r
def yafy (fr:List (AV A)):Operand→AV A
 | .tmp t=>(fr[t]?).getD .undef
 | .const v=>constAV v
 | .global _=>.undef
 | .func f=>.fn f []
def toD (look:Nat→Option (Ob A)):AV A→Option (D A×Upd A×List Nat)
 | .d x=>some (x,[],[])
 | .own _ t =>
  match look t with
  | some (.row e xs)=>some (.sl e xs,[(t,some (.frz e xs))],[t])
  | some (.frz e xs)=>some (.sl e xs,[],[t])
  | _=>none
 | _=>none
def lookU (look:Nat→Option (Ob A)):Upd A→Nat→Option (Ob A)
 | []=>look
 | (t,o)::r=>lookU (fun s=>if s = t then o else look s) r
def toDs (look:Nat→Option (Ob A)):List (AV A)→Option (List (D A)×Upd A×List Nat)
 | []=>some ([],[],[])
 | v::vs=>(toD look v).bind fun (x,u,t)=>(toDs (lookU look u) vs).bind fun (xs,us,ts)=>some (x::xs,u++us,t++ts)
def oneB (look:Nat→Option (Ob A)):AV A→Bool
 | .d (.lit v)=>v.oneCell'
 | .d _=>true
 | .own _ t | .ptr t _ | .elp _ t _ _ | .mp t | .vw _ t _ _=>(look t).isSome
 | .cel _ _=>true
 | .fn _ _=>true
 | _=>false
def ybsy (look:Nat→Option (Ob A)):AV A→Bool
 | .agg _=>true
 | x=>oneB look x
def splice {α:Type} (l:List α) (off:Nat) (new:List α):List α:=l.take off++(new++l.drop (off + new.length))
def castL {e e':Nat} (xs:List (A e)):Option (List (A e')):=if h:e = e' then some (h ▸ xs) else none
def fillS (look:Nat→Option (Ob A)) (place:Nat→Option (Nat×Nat)):List (AV A)→List (Nat×AV A)→Option (List (AV A))
 | cells,[]=>some cells
 | cells,(i,v)::r =>
  match place i with
  | none=>none
  | some (off,size)=>if v.cells.length = size∧off + size≤cells.length∧ybsy look v = true then fillS look place (splice cells off v.cells) r else none
def ychy (P:Program) (look:Nat→Option (Ob A)) (t:TypeId) (parts:List (Nat×AV A)):Option (List (AV A)) :=
 match P.info? t,P.underlying t with
 | some it,some (.array _ e) =>
  match it.zero,P.info? e with
  | some z,some ie=>fillS look (fun i=>some (i * ie.size,ie.size)) (z.cells.toList.map const1) parts
  | _,_=>none
 | some it,some (.struct fields) =>
  match it.zero,fields.toList.mapM (fun f=>(P.info? f.type).map fun i=>(f.offset,i.size)) with
  | some z,some places=>fillS look (places.toArray[·]?) (z.cells.toList.map const1) parts
  | _,_=>none
 | _,_=>none
def chunk {α:Type} (size:Nat):Nat→List α→List (List α)
 | 0,_=>[]
 | n + 1,l=>l.take size::chunk size n (l.drop size)
def decs (T:Ty A) (e:Nat):List (List (D A))→Option (List (A e))
 | []=>some []
 | c::cs=>(T.dec e c).bind fun x=>(decs T e cs).map (x::·)
def zeros (P:Program) (t:Nat):Option (List (AV A)):=((P.info? t).bind (·.zero)).map fun v=>v.cells.toList.map const1
def ydUy:List (AV A)→Option (List (D A))
 | []=>some []
 | .d x::r=>(ydUy r).map (x::·)
 | _=>none
def yaey:Nat:=140737488355328
mutual
def hand (look:Nat→Option (Ob A)):Nat→AV A→Option (IV A×List Nat)
 | 0,_=>none
 | _ + 1,.undef=>some (.undef,[])
 | _ + 1,.d x=>some (.d x,[])
 | n + 1,.agg cs=>(hands look n cs).map fun (x,t)=>(.agg x,t)
 | n + 1,.tup cs=>(hands look n cs).map fun (x,t)=>(.tup x,t)
 | _ + 1,.own e t =>
  match look t with
  | some (.row e' xs)=>if e' = e then some (.arr e' xs,[t]) else none
  | some (.frz e' xs)=>if e' = e then some (.d (.sl e' xs),[]) else none
  | _=>none
 | n + 1,.ptr t off =>
  match off,look t with
  | 0,some (.box cs)=>(hands look n cs).map fun (x,ts)=>(.box x,t::ts)
  | _,_=>none
 | n + 1,.fn f cs=>(hands look n cs).map fun (x,t)=>(.fn f x,t)
 | _ + 1,.mp t =>
  match look t with
  | some (.mp k e m)=>some (.mp k e m,[t])
  | _=>none
 | _ + 1,.cel cs off=>some (.cel cs off,[])
 | _ + 1,_=>none
def hands (look:Nat→Option (Ob A)):Nat→List (AV A)→Option (List (IV A)×List Nat)
 | 0,_=>none
 | _ + 1,[]=>some ([],[])
 | n + 1,v::vs=>(hand look n v).bind fun (x,t)=>(hands look n vs).bind fun (xs,ts)=>some (x::xs,t++ts)
end
def ydpy (look:Nat→Option (Ob A)) (wr:Bool) (v:AV A):Option (IV A×List Nat×List Nat) :=
 match wr,v with
 | false,.own _ t =>
  match look t with
  | some (.row e xs)=>some (.d (.sl e xs),[],[t])
  | some (.frz e xs)=>some (.d (.sl e xs),[],[t])
  | _=>none
 | _,v=>(hand look 64 v).map fun (x,t)=>(x,t,[])
def ybzy (look:Nat→Option (Ob A)) (wr:Nat→Bool):Nat→List (AV A)→Option (List (IV A)×List Nat×List Nat)
 | _,[]=>some ([],[],[])
 | j,v::vs=>(ydpy look (wr j) v).bind fun (x,t,l)=>(ybzy look wr (j + 1) vs).bind fun (xs,ts,ls)=>some (x::xs,t++ts,l++ls)
def D.plain:D A→Bool
 | .sl _ _ | .clo _ _ _=>false
 | _=>true
mutual
def IV.plain (flat:Nat→Bool):Nat→IV A→Bool
 | 0,_=>false
 | _ + 1,.undef=>true
 | _ + 1,.d x=>x.plain
 | _ + 1,.arr e _=>flat e
 | _ + 1,.mp k e _=>flat k&&flat e
 | _ + 1,.cel _ _=>false
 | n + 1,.agg cs | n + 1,.tup cs | n + 1,.box cs | n + 1,.fn _ cs=>IV.plains flat n cs
def IV.plains (flat:Nat→Bool):Nat→List (IV A)→Bool
 | 0,_=>false
 | _ + 1,[]=>true
 | n + 1,x::xs=>IV.plain flat n x&&IV.plains flat n xs
end
mutual
def putIV:Nat→IV A→List Nat→Option (AV A×Upd A×List Nat)
 | 0,_,_=>none
 | _ + 1,.undef,fs=>some (.undef,[],fs)
 | _ + 1,.d x,fs=>some (.d x,[],fs)
 | _ + 1,.cel cs off,fs=>some (.cel cs off,[],fs)
 | n + 1,.agg xs,fs=>(yaLy n xs fs).map fun (cs,u,fs)=>(.agg cs,u,fs)
 | n + 1,.tup xs,fs=>(yaLy n xs fs).map fun (cs,u,fs)=>(.tup cs,u,fs)
 | _ + 1,.arr e xs,t::fs=>some (.own e t,[(t,some (.row e xs))],fs)
 | n + 1,.box xs,t::fs=>(yaLy n xs fs).map fun (cs,u,fs)=>(.ptr t 0,u++[(t,some (.box cs))],fs)
 | n + 1,.fn f xs,fs=>(yaLy n xs fs).map fun (cs,u,fs)=>(.fn f cs,u,fs)
 | _ + 1,.mp k e m,t::fs=>some (.mp t,[(t,some (.mp k e m))],fs)
 | _ + 1,_,[]=>none
def yaLy:Nat→List (IV A)→List Nat→Option (List (AV A)×Upd A×List Nat)
 | 0,_,_=>none
 | _ + 1,[],fs=>some ([],[],fs)
 | n + 1,x::xs,fs=>(putIV n x fs).bind fun (c,u,fs)=>(yaLy n xs fs).bind fun (cs,us,fs)=>some (c::cs,u++us,fs)
end
mutual
def yaOy (wr:Bool):Nat→AV A→IV A→List Nat→Option (Upd A×List Nat)
 | 0,_,_,_=>none
 | n + 1,v,x,fs =>
  match v,x with
  | .own e t,x=>if wr then (match x with | .arr e' xs=>if e' = e then some ([(t,some (.row e' xs))],fs) else none | .undef=>some ([],fs) | _=>none) else some ([],fs)
  | .ptr t 0,.box xs=>(yaLy n xs fs).map fun (cs,u,fs)=>(u++[(t,some (.box cs))],fs)
  | .ptr _ 0,.undef=>some ([],fs)
  | .fn f cs,.fn f' xs=>if f = f' then ybay (fun _=>true) 0 n cs xs fs else none
  | .mp t,.mp k e m=>some ([(t,some (.mp k e m))],fs)
  | .d _,_=>some ([],fs)
  | .agg _,_=>some ([],fs)
  | .undef,_=>some ([],fs)
  | .cel _ _,_=>some ([],fs)
  | _,_=>none
def ybay (wr:Nat→Bool):Nat→Nat→List (AV A)→List (IV A)→List Nat→Option (Upd A×List Nat)
 | _,0,_,_,_=>none
 | _,_ + 1,[],[],fs=>some ([],fs)
 | j,n + 1,v::vs,x::xs,fs=>(yaOy (wr j) n v x fs).bind fun (u,fs)=>(ybay wr (j + 1) n vs xs fs).bind fun (us,fs)=>some (u++us,fs)
 | _,_ + 1,_,_,_=>none
end
mutual
def occAV (t:Nat):AV A→Bool
 | .agg cs | .tup cs | .fn _ cs=>yady t cs
 | .own _ u | .ptr u _ | .elp _ u _ _ | .mp u | .vw _ u _ _=>u == t
 | _=>false
def yady (t:Nat):List (AV A)→Bool
 | []=>false
 | v::vs=>occAV t v || yady t vs
end
def ycky:List Nat→Bool
 | []=>true
 | x::xs=>!xs.contains x&&ycky xs
def elemT (P:Program) (t:Nat):Option Nat:=match P.underlying t with | some (.slice e)=>some e | _=>none
def ydLy (P:Program) (s f:Nat):Option (Nat×Nat) :=
 match P.underlying s with | some (.struct fs)=>(fs[f]?).bind fun x=>if P.cellsOf x.type = 0 then none else some (x.offset,x.type) | _=>none
def partL {α:Type} (P:Program) (t:Nat) (cs:List α) (off:Nat):Option (List α×Bool) :=
 match P.underlying t with
 | none=>none
 | some (.struct _) | some (.array _ _)=>if off + P.cellsOf t≤cs.length then some ((cs.drop off).take (P.cellsOf t),true) else none
 | some _=>(cs[off]?).map fun c=>([c],false)
def packL {α:Type} (f:List α→AV A) (g:α→AV A):List α×Bool→AV A
 | (cs,true)=>f cs
 | ([c],false)=>g c
 | _=>.undef
def ybUy (P:Program) (t:Nat) (cs:List (AV A)) (off:Nat):Option (AV A):=(partL P t cs off).map (packL .agg id)
def partD (P:Program) (t:Nat) (cs:List (D A)) (off:Nat):Option (AV A):=(partL P t cs off).map (packL (fun l=>.agg (l.map AV.d)) AV.d)
def eqOne:TypeDesc→AV A→AV A→Option Bool
 | .int _,.d (.int ka a),.d (.int kb b)=>if ka = kb then some (a == b) else none
 | .bool,.d (.bool a),.d (.bool b)=>some (a == b)
 | .string,.d (.str a),.d (.str b)=>some (a == b)
 | _,_,_=>none
mutual
def eqT (P:Program):Nat→Nat→AV A→AV A→Option Bool
 | 0,_,_,_=>none
 | n + 1,t,x,y =>
  match P.underlying t,x,y with
  | some (.struct fs),.agg xs,.agg ys=>if P.stoodInHeld t then none else eqF P n fs.toList xs ys
  | some d,x,y=>eqOne d x y
  | none,_,_=>none
def eqF (P:Program):Nat→List Field→List (AV A)→List (AV A)→Option Bool
 | 0,_,_,_=>none
 | _ + 1,[],_,_=>some true
 | n + 1,f::fs,xs,ys =>
  if f.name = "_" then none else
  match ybUy P f.type xs f.offset,ybUy P f.type ys f.offset with
  | some a,some b=>(eqT P n f.type a b).bind fun r=>(eqF P n fs xs ys).map (r&&·)
  | _,_=>none
end
def yoZy:Operand→Bool
 | .const _=>true
 | _=>false
def eqAV (P:Program) (t:Nat) (xo yo:Operand) (x y:AV A):Option Bool :=
 match P.underlying t,x,y with
 | some (.interface _),.d .nilif,.d .nilif=>if yoZy xo || yoZy yo then some true else none
 | some (.interface _),.d .anyif,.d .nilif=>some false
 | some .bool,.d (.bool a),.d (.bool b)=>some (a == b)
 | some (.struct _),.agg xs,.agg ys=>if P.eqGuardType P.depth t then none else eqT P 64 t (.agg xs) (.agg ys)
 | _,_,_=>none
def yaWy (T:Ty A) (e:Nat) (x:A e):AV A :=
 match T.agg e,T.enc e x with
 | true,ds=>.agg (ds.map .d)
 | false,[d]=>.d d
 | false,_=>.undef
def yf4y:List (AV A)→Option (List (D A))
 | []=>some []
 | .d x::r=>(yf4y r).map (x::·)
 | _=>none
def yePy (T:Ty A) (e:Nat) (v:AV A):Option (A e) :=
 match T.agg e,v with
 | true,.agg cs=>(yf4y cs).bind (T.dec e)
 | false,.d d=>T.dec e [d]
 | _,_=>none
def eqD:D A→D A→Bool
 | .int k a,.int k' b=>decide (k = k')&&a == b
 | .bool a,.bool b=>a == b
 | .str a,.str b=>a == b
 | _,_=>false
def eqDs:List (D A)→List (D A)→Bool
 | [],[]=>true
 | a::as,b::bs=>eqD a b&&eqDs as bs
 | _,_=>false
def getM (T:Ty A) (k e:Nat) (x:A k):List (A k×A e)→Option (A e)
 | []=>none
 | p::ps=>bif eqDs (T.enc k x) (T.enc k p.1) then some p.2 else getM T k e x ps
def setM (T:Ty A) (k e:Nat) (x:A k) (y:A e):List (A k×A e)→List (A k×A e)
 | []=>[(x,y)]
 | p::ps=>bif eqDs (T.enc k x) (T.enc k p.1) then (x,y)::ps else p::setM T k e x y ps
def delM (T:Ty A) (k e:Nat) (x:A k):List (A k×A e)→List (A k×A e)
 | []=>[]
 | p::ps=>bif eqDs (T.enc k x) (T.enc k p.1) then ps else p::delM T k e x ps
def castM {k e k' e':Nat} (m:List (A k×A e)):Option (List (A k'×A e')):=if h:k = k'∧e = e' then some (h.1 ▸ h.2 ▸ m) else none
def aggT (P:Program) (e:Nat):Bool:=match (P.info? e).bind (·.zero) with | some (.agg _)=>true | _=>false
def mapT (P:Program) (T:Ty A) (t:Nat):Option (Nat×Nat) :=
 match P.underlying t with
 | some (.map k e)=>if T.agg k = aggT P k∧T.agg e = aggT P e∧T.size k = P.cellsOf k∧T.size e = P.cellsOf e then some (k,e) else none
 | _=>none
def binAV (op:BinOp) (x y:AV A):Option (AV A) :=
 match x,y with
 | .d (.int k a),.d (.int k' b) =>
  if k≠k' then none else
  match op with
  | .add=>some (.d (.int k (k.wrap (a + b))))
  | .sub=>some (.d (.int k (k.wrap (a - b))))
  | .mul=>some (.d (.int k (k.wrap (a * b))))
  | .eql=>some (.d (.bool (a == b)))
  | .neq=>some (.d (.bool (a != b)))
  | .lss=>some (.d (.bool (decide (a < b))))
  | .leq=>some (.d (.bool (decide (a≤b))))
  | .gtr=>some (.d (.bool (decide (a > b))))
  | .geq=>some (.d (.bool (decide (a ≥ b))))
  | _=>none
 | .d (.str a),.d (.str b) =>
  match op with
  | .eql=>some (.d (.bool (a == b)))
  | .neq=>some (.d (.bool (!(a == b))))
  | .lss=>some (.d (.bool (Op.bytesLess a b)))
  | .leq=>some (.d (.bool (Op.bytesLess a b || a == b)))
  | .gtr=>some (.d (.bool (!(Op.bytesLess a b || a == b))))
  | .geq=>some (.d (.bool (!(Op.bytesLess a b))))
  | _=>none
 | _,_=>none
def yu1y (c:Bool):AV A→AV A→Option (AV A)
 | .d (.bool x),.d (.bool y)=>some (.d (.bool (bif c then x else y)))
 | .undef,b=>bif c then none else some b
 | a,.undef=>bif c then some a else none
 | .tup [],b=>bif c then none else some b
 | a,.tup []=>bif c then some a else none
 | _,_=>none
def rowOf (look:Nat→Option (Ob A)) (e:Nat):AV A→Option (List (A e)×List Nat)
 | .d (.sl e' xs)=>(castL (e':=e) xs).map fun xs=>(xs,[])
 | .d .nsl=>some ([],[])
 | .own _ t =>
  match look t with
  | some (.row e' xs)=>(castL (e':=e) xs).map fun xs=>(xs,[t])
  | some (.frz e' xs)=>(castL (e':=e) xs).map fun xs=>(xs,[t])
  | _=>none
 | _=>none
def lenAV (look:Nat→Option (Ob A)):AV A→Option (Nat×List Nat)
 | .d (.str s)=>some (s.length,[])
 | .d (.sl _ xs)=>some (xs.length,[])
 | .d .nsl=>some (0,[])
 | .own _ t =>
  match look t with
  | some (.row _ xs)=>some (xs.length,[t])
  | some (.frz _ xs)=>some (xs.length,[t])
  | _=>none
 | .vw _ t lo hi=>if (look t).isSome then some ((hi - lo).toNat,[t]) else none
 | .mp t =>
  match look t with
  | some (.mp _ _ m)=>some (m.length,[t])
  | _=>none
 | _=>none
def Env.tags (E:Env A) (o:Oper):List Nat:=match o.dst with | some d=>E.tg d | none=>[]
def yboy (look:Nat→Option (Ob A)):List Nat→Option Nat
 | t::_=>if (look t).isNone then some t else none
 | []=>none
def ydty (P:Program) (T:Ty A) (t:TypeId) (x:AV A):Bool :=
 match P.underlying t,x with
 | some .string,.d (.str _)=>true
 | some (.slice e),.d (.sl e' _)=>e == e'&&T.size e == P.cellsOf e
 | _,_=>false
def lenT (P:Program) (t:TypeId) (x:AV A):Bool :=
 match P.underlying t,x with
 | some .string,.d (.str _)=>true
 | some (.slice _),.d (.str _)=>false
 | some (.slice _),.mp _=>false
 | some (.slice _),_=>true
 | some (.map _ _),.mp _=>true
 | _,_=>false
section ops
variable (E:Env A) (look:Nat→Option (Ob A)) (ρ:Operand→AV A) {R:Type} (k:AV A→Upd A→List Nat→Option R)
def maxAV:AV A→List (AV A)→Option (AV A)
 | x,[]=>some x
 | .d (.int k x),.d (.int k' y)::r=>if k = k' then maxAV (.d (.int k (if y > x then y else x))) r else none
 | _,_=>none
def minAV:AV A→List (AV A)→Option (AV A)
 | x,[]=>some x
 | .d (.int k x),.d (.int k' y)::r=>if k = k' then minAV (.d (.int k (if y < x then y else x))) r else none
 | _,_=>none
def yepy (x:AV A) (lo hi:Option (AV A)):Option R :=
 match x,lo,hi with
 | .d (.str s),none,none=>k (.d (.str s)) [] []
 | .d (.str s),some (.d (.int _ l)),none=>bif decide (0≤l)&&decide (l≤s.length) then k (.d (.str (s.drop l.toNat))) [] [] else none
 | .d (.str s),none,some (.d (.int _ h))=>bif decide (0≤h)&&decide (h≤s.length) then k (.d (.str (s.take h.toNat))) [] [] else none
 | .d (.str s),some (.d (.int _ l)),some (.d (.int _ h)) =>
  bif decide (0≤l)&&(decide (l≤h)&&decide (h≤s.length)) then k (.d (.str ((s.take h.toNat).drop l.toNat))) [] [] else none
 | .d (.sl e s),some (.d (.int _ l)),none=>bif decide (0≤l)&&decide (l≤s.length) then k (.d (.sl e (s.drop l.toNat))) [] [] else none
 | .d (.sl e s),none,some (.d (.int _ h))=>bif decide (0≤h)&&decide (h≤s.length) then k (.d (.sl e (s.take h.toNat))) [] [] else none
 | .d (.sl e s),some (.d (.int _ l)),some (.d (.int _ h)) =>
  bif decide (0≤l)&&(decide (l≤h)&&decide (h≤s.length)) then k (.d (.sl e ((s.take h.toNat).drop l.toNat))) [] [] else none
 | _,_,_=>none
def ycTy (tags:List Nat) (sT:Nat) (zerosX:Bool) (s x:AV A):Option R :=
 match zerosX,elemT E.P sT,yboy look tags with
 | false,some e,some t =>
  if E.T.size e = E.P.cellsOf e∧((zeros (A:=A) E.P e).map List.length) = some (E.P.cellsOf e)∧0 < E.P.bytesOf e then
  match s with
  | .d .nsl =>
   match rowOf look e x with
   | some (zs,ts)=>bif decide (zs.length * E.P.bytesOf e≤yaey) then k (.own e t) [(t,some (.row e zs))] (t::ts) else none
   | none=>none
  | .own _ t0 =>
   match look t0,rowOf look e x with
   | some (.row e' ys),some (zs,ts) =>
    match castL (e':=e) ys with
    | some ys=>if ts.contains t0 then none else bif decide ((ys.length + zs.length) * E.P.bytesOf e≤yaey) then k (.own e t) [(t0,none),(t,some (.row e (ys++zs)))] (t0::t::ts) else none
    | none=>none
   | _,_=>none
  | _=>none
  else none
 | _,_,_=>none
def lentU (look:Nat→Option (Ob A)) (lent:List Nat):Upd A:=lent.map fun t=>(t,match look t with | some (.row e xs)=>some (.frz e xs) | o=>o)
def goneU (look:Nat→Option (Ob A)) (ts:List Nat):Upd A:=ts.map fun t=>(t,(look t).map fun o=>.gone o.kind)
def ycPy:List (IV A)→List (IV A)→List (IV A)
 | x::xs,y::ys=>(match x with | .undef | .d _ | .agg _ | .cel _ _=>.undef | _=>y)::ycPy xs ys
 | _,ys=>ys
def callK (tags:List Nat) (f:Nat) (caps args:List (AV A)):Option R :=
 match E.C f,ybzy look (E.mode f) 0 (args++caps) with
 | some spec,some (xs,ts,lent) =>
  if ycky ts&&(ts.all (fun t=>!lent.contains t)&&(ycky tags&&tags.all (fun t=>(look t).isNone&&!yady t (args++caps)))) then
   spec xs fun r ys =>
    match ybay (E.mode f) 0 256 (args++caps) (ycPy xs ys) tags with
    | some (u,fs) =>
     match putIV 64 r fs with
     | some (v,u',_) =>
      if ycky (u.map (·.1))&&(u.all (fun y=>tags.contains y.1 || ts.contains y.1)&&(u++u').all (fun y=>y.2.isSome)) then
       k v ((if IV.plain E.flat 64 r&&IV.plains E.flat 64 (ycPy xs ys) then [] else lentU look lent)++(goneU look ts++(u++u'))) (ts++lent++tags)
      else none
     | none=>none
    | none=>none
  else none
 | _,_=>none
def wrapV (look:Nat→Option (Ob A)):Bool→AV A→Bool
 | true,.mp t=>match look t with | some (.mp _ _ _)=>true | _=>false
 | false,.own _ t=>match look t with | some (.row _ _)=>true | some (.frz _ _)=>true | _=>false
 | false,.d (.sl _ _)=>true
 | _,_=>false
def wrapK (tags:List Nat) (f1:Nat) (mp:Bool) (vs:List (AV A)):Option R :=
 match vs,yboy look tags with
 | [x],some t=>if oneB look x&&wrapV look mp x then k (.fn f1 [.ptr t 0]) [(t,some (.box [x]))] [t] else none
 | _,_=>none
def ykcy (f1:List Nat) (k:Nat) (vs:List (AV A)):Option (Nat×Nat×List (A k)) :=
 match vs with
 | [.fn g [.ptr tB 0]] =>
  if f1.contains g = true then
   match look tB with
   | some (.box [.mp t]) =>
    match look t with
    | some (.mp k' e m)=>(castL (e':=k) (m.map (·.1))).map fun ks=>(tB,t,ks)
    | _=>none
   | _=>none
  else none
 | _=>none
def Env.giving (E:Env A) (e:Nat) (xs:List (A e)):Env A:={ E with C:=fun _=>some fun _ _ k=>k (.arr e xs) [.undef],mode:=fun _ _=>false }
def bldOf (look:Nat→Option (Ob A)):AV A→Option (Nat×List UInt8)
 | .ptr t 0=>match look t with | some (.bld s)=>some (t,s) | _=>none
 | _=>none
def bldK (m:Nat) (vs:List (AV A)):Option R :=
 match m,vs with
 | 0,[x,.d (.str s)] =>
  match bldOf look x with
  | some (t,s0)=>bif decide (s0.length + s.length≤140737488355328) then k (.tup [.d (.int .i64 s.length),.d .nilif]) [(t,some (.bld (s0++s)))] [t] else none
  | none=>none
 | 1,[x]=>match bldOf look x with | some (t,s)=>k (.d (.int .i64 s.length)) [] [t] | none=>none
 | 2,[x]=>match bldOf look x with | some (t,s)=>k (.d (.str s)) [(t,some (.gone (1,0)))] [t] | none=>none
 | _,_=>none
def callS (tags:List Nat) (f:Nat) (caps args:List (AV A)):Option R :=
 match E.sp f with
 | none=>callK E look k tags f caps args
 | some (.wrap f1 mp)=>wrapK look k tags f1 mp (args++caps)
 | some .bwr=>bldK look k 0 (args++caps)
 | some .bln=>bldK look k 1 (args++caps)
 | some .bst=>bldK look k 2 (args++caps)
 | some (.keys f1 kk srt) =>
  match ykcy look f1 kk (args++caps) with
  | some (tB,t,ks) =>
   match srt ks with
   | some xs=>callK (E.giving kk xs) look (fun v u ts=>k v u (tB::t::ts)) tags f [] [.undef]
   | none=>none
  | none=>none
def opK (o:Oper):Option R :=
 let tags:=E.tags o
 match o.op with
 | .move x | .assign x=>k (ρ x) [] []
 | .pick c a b=>match ρ c with | .d (.bool c)=>(yu1y c (ρ a) (ρ b)).bind fun v=>k v [] [] | _=>none
 | .alloc e=>match yboy look tags,zeros E.P e with | some t,some cs=>if E.T.bld.map (·.1) = some e then (match cs with | [.d (.lit (.pointer none)),.d .nsl]=>k (.ptr t 0) [(t,some (.bld []))] [t] | _=>none) else k (.ptr t 0) [(t,some (.box cs))] [t] | _,_=>none
 | .box _ x=>match yboy look tags with | some t=>if ybsy look (ρ x) then k (.ptr t 0) [(t,some (.box (ρ x).cells))] [t] else none | _=>none
 | .build t ps=>match ychy E.P look t (ps.toList.map fun p=>(p.1,ρ p.2)) with | some cs=>k (.agg cs) [] [] | none=>none
 | .buildSlice t n ps =>
  match elemT E.P t,yboy look tags with
  | some e,some tag =>
   if E.T.size e = E.P.cellsOf e then
   match zeros E.P e with
   | none=>none
   | some zs =>
   if zs.length = E.P.cellsOf e∧n * E.P.cellsOf e≤16777216 then
   match fillS look (fun i=>some (i * E.P.cellsOf e,E.P.cellsOf e)) ((List.replicate n zs).flatten) (ps.toList.map fun p=>(p.1,ρ p.2)) with
   | some cs =>
    match toDs look cs with
    | some (ds,u,ts) =>
     match decs E.T e (chunk (E.P.cellsOf e) n ds) with
     | some xs=>k (.own e tag) (u++[(tag,some (.row e xs))]) (tag::ts)
     | none=>none
    | none=>none
   | none=>none
   else none
   else none
  | _,_=>none
 | .load t a =>
  match ρ a with
  | .ptr tg off=>match look tg with | some (.box cs)=>(ybUy E.P t cs off).bind fun v=>k v [] [tg] | _=>none
  | .elp e tg i off =>
   match look tg with
   | some (.row e' xs) | some (.frz e' xs)=>if e' = e then match xs[i]? with | some x=>(partD E.P t (E.T.enc e' x) off).bind fun v=>k v [] [tg] | none=>none else none
   | _=>none
  | .cel cs off=>(partD E.P t cs off).bind fun v=>k v [] []
  | _=>none
 | .store t a x =>
  let vs:=(ρ x).cells
  if vs.length = E.P.cellsOf t∧vs.all (oneB look) = true∧(E.P.info? t).isSome = true then
   match ρ a with
   | .ptr tg off=>match look tg with | some (.box cs)=>if off + vs.length≤cs.length then k .undef [(tg,some (.box (splice cs off vs)))] [tg] else none | _=>none
   | .elp e tg i off =>
    match look tg,toDs look vs with
    | some (.row e' xs),some (ds,u,ts) =>
     if e' = e∧ts.contains tg = false then
      match xs[i]? with
      | some x =>
       if off + vs.length≤E.T.size e' then
       match E.T.dec e' (splice (E.T.enc e' x) off ds) with
       | some x'=>k .undef (u++[(tg,some (.row e' (xs.set i x')))]) (tg::ts)
       | none=>none
       else none
      | none=>none
     else none
    | _,_=>none
   | _=>none
  else none
 | .nilCheck x =>
  match ρ x with
  | .ptr t o=>match look t with | some _=>k (.ptr t o) [] [t] | none=>none
  | .elp e t i o=>match look t with | some _=>k (.elp e t i o) [] [t] | none=>none
  | .cel c o=>k (.cel c o) [] []
  | .fn f cs=>k (.fn f cs) [] []
  | _=>none
 | .binOp op t xo yo _ =>
  match op,ρ xo,ρ yo with
  | .quo,.d (.int ka a),.d (.int kb b)=>if ka = kb then (bif b == 0 then none else k (.d (.int ka (ka.wrap (a.tdiv b)))) [] []) else none
  | .rem,.d (.int ka a),.d (.int kb b)=>if ka = kb then (bif b == 0 then none else k (.d (.int ka (a.tmod b))) [] []) else none
  | .shr,.d (.int ka a),.d (.int _ b)=>bif decide (0≤b)&&decide (b≤(ka.bits:Int)) then k (.d (.int ka (a.fdiv (2 ^ b.toNat)))) [] [] else none
  | .add,.d (.str a),.d (.str b)=>bif strOk a b then k (.d (.str (a++b))) [] [] else none
  | op,x,y =>
   match binAV op x y with
   | some v=>k v [] []
   | none =>
    match op,eqAV E.P t xo yo x y with
    | .eql,some b=>k (.d (.bool b)) [] []
    | .neq,some b=>k (.d (.bool (!b))) [] []
    | _,_=>none
 | .unOp op _ x =>
  match op,ρ x with
  | .not,.d (.bool b)=>k (.d (.bool (!b))) [] []
  | .neg,.d (.int ki a)=>k (.d (.int ki (ki.wrap (0 - a)))) [] []
  | _,_=>none
 | .convert s d x =>
  match E.P.underlying s,E.P.underlying d,ρ x with
  | some _,some (.int ki),.d (.int _ n)=>k (.d (.int ki (ki.wrap n))) [] []
  | some _,some .string,.d (.int _ n)=>bif decide (0≤n)&&decide (n < 128) then k (.d (.str [n.toNat.toUInt8])) [] [] else none
  | some _,some .string,.d (.str s)=>k (.d (.str s)) [] []
  | _,_,_=>none
 | .makeFunc fn first captured =>
  match fn,first.toList with
  | .func f,[]=>k (.fn f (captured.toList.map ρ)) [] []
  | _,_=>none
 | .makeSlice t n c =>
  match elemT E.P t,yboy look tags,ρ n,ρ c with
  | some e,some tag,.d (.int _ n),.d (.int _ c) =>
   if E.T.size e = E.P.cellsOf e∧0 < E.P.bytesOf e then
   match (zeros E.P e).bind ydUy with
   | some ds =>
    match E.T.dec e ds with
    | some z=>bif decide (0≤n)&&(decide (n≤c)&&decide (c * (E.P.bytesOf e:Nat)≤140737488355328)) then k (.own e tag) [(tag,some (.row e (List.replicate n.toNat z)))] [tag] else none
    | none=>none
   | none=>none
   else none
  | _,_,_,_=>none
 | .slice t x lo hi mx =>
  match mx,ρ x with
  | none,.own e tg =>
   match tags with
   | [t2] =>
    match look tg,lo.map ρ,hi.map ρ with
    | some (.row e' xs),none,some (.d (.int _ h)) =>
     if e' = e∧ydty E.P E.T t (.d (.sl e' xs)) = true∧(look t2).isNone = true then
      (bif decide (0≤h)&&decide (h≤xs.length) then k (.own e' t2) [(tg,none),(t2,some (.row e' (xs.take h.toNat)))] [tg,t2] else none) else none
    | _,_,_=>none
   | _::_ =>
    match look tg,lo.map ρ,hi.map ρ with
    | some (.row e' xs),some (.d (.int _ l)),none =>
     if e' = e∧ydty E.P E.T t (.d (.sl e' xs)) = true then
      (bif decide (0 < xs.length)&&(decide (0≤l)&&decide (l≤xs.length)) then k (.vw e' tg l xs.length) [] [tg] else none) else none
    | _,_,_=>none
   | [] =>
   match look tg with
   | some (.row e' xs)=>if e' = e∧ydty E.P E.T t (.d (.sl e' xs)) = true then yepy (fun v u ts=>k v ((tg,some (.frz e' xs))::u) (tg::ts)) (.d (.sl e' xs)) (lo.map ρ) (hi.map ρ) else none
   | some (.frz e' xs)=>if e' = e∧ydty E.P E.T t (.d (.sl e' xs)) = true then yepy (fun v u ts=>k v u (tg::ts)) (.d (.sl e' xs)) (lo.map ρ) (hi.map ρ) else none
   | _=>none
  | none,x=>if ydty E.P E.T t x = true then yepy k x (lo.map ρ) (hi.map ρ) else none
  | _,_=>none
 | .fieldAddr s x f =>
  match ydLy E.P s f with
  | some (o,_) =>
   match ρ x with
   | .ptr t off=>match look t with | some _=>k (.ptr t (off + o)) [] [t] | none=>none
   | .elp e t i off=>match look t with | some _=>k (.elp e t i (off + o)) [] [t] | none=>none
   | .cel cs off=>k (.cel cs (off + o)) [] []
   | _=>none
  | none=>none
 | .field s x f =>
  match ydLy E.P s f,ρ x with
  | some (o,t),.agg cs=>(ybUy E.P t cs o).bind fun v=>k v [] []
  | _,_=>none
 | .indexAddr t x i =>
  match elemT E.P t,ρ i with
  | some e,.d (.int _ i) =>
   if E.T.size e = E.P.cellsOf e then
   match ρ x with
   | .own e' tg =>
    match look tg with
    | some (.row e'' xs)=>if e' = e∧e'' = e then (bif decide (0≤i)&&decide (i < xs.length) then k (.elp e tg i.toNat 0) [] [tg] else none) else none
    | some (.frz e'' xs)=>if e' = e∧e'' = e then (bif decide (0≤i)&&decide (i < xs.length) then k (.elp e tg i.toNat 0) [] [tg] else none) else none
    | _=>none
   | .d (.sl e' xs)=>if e' = e then (bif decide (0≤i) then match xs[i.toNat]? with | some x=>k (.cel (E.T.enc e' x) 0) [] [] | none=>none else none) else none
   | .vw e' tg lo hi =>
    match look tg with
    | some (.row e'' xs)=>if e' = e∧e'' = e then (bif decide (0≤i)&&(decide (i < hi - lo)&&decide (lo + i < xs.length)) then k (.elp e tg (lo + i).toNat 0) [] [tg] else none) else none
    | _=>none
   | _=>none
   else none
  | _,_=>none
 | .index t x i =>
  match E.P.underlying t,ρ x,ρ i with
  | some .string,.d (.str s),.d (.int _ i)=>bif decide (0≤i) then match s[i.toNat]? with | some b=>k (.d (.int .u8 b.toNat)) [] [] | none=>none else none
  | _,_,_=>none
 | .makeMap t none =>
  match mapT E.P E.T t,yboy look tags with
  | some (ki,e),some tag=>k (.mp tag) [(tag,some (.mp ki e []))] [tag]
  | _,_=>none
 | .lookup t x i ok =>
  match mapT E.P E.T t,ρ x with
  | some (ki,e),.mp tg =>
   match look tg,yePy E.T ki (ρ i),(zeros E.P e).bind ydUy with
   | some (.mp k' e' m),some key,some zs =>
    match castM (k':=ki) (e':=e) m,E.T.dec e zs,E.keyed ki with
    | some m,some z,true=>bif ok then k (.tup [yaWy E.T e ((getM E.T ki e key m).getD z),.d (.bool (getM E.T ki e key m).isSome)]) [] [tg] else k (yaWy E.T e ((getM E.T ki e key m).getD z)) [] [tg]
    | _,_,_=>none
   | _,_,_=>none
  | _,_=>none
 | .mapUpdate t x i y | .insert t x i y =>
  match mapT E.P E.T t,ρ x with
  | some (ki,e),.mp tg =>
   match look tg,yePy E.T ki (ρ i),yePy E.T e (ρ y) with
   | some (.mp k' e' m),some key,some val =>
    match castM (k':=ki) (e':=e) m,E.keyed ki with
    | some m,true=>k .undef [(tg,some (.mp ki e (setM E.T ki e key val m)))] [tg]
    | _,_=>none
   | _,_,_=>none
  | _,_=>none
 | .extract x i=>match ρ x with | .tup cs=>(cs[i]?).bind fun v=>k v [] [] | _=>none
 | .call c =>
  match c.callee with
  | .builtin .len =>
   match c.args.toList,c.argTypes.toList with
   | [x],[t]=>match lenAV look (ρ x),lenT E.P t (ρ x) with | some (n,ts),true=>k (.d (.int .i64 n)) [] ts | _,_=>none
   | _,_=>none
  | .builtin .append =>
   match c.args.toList,c.argTypes.toList with
   | [s,x],[sT,xT]=>ycTy E look k tags sT (match E.P.underlying xT with | some (.int _)=>true | some _=>false | none=>true) (ρ s) (ρ x)
   | _,_=>none
  | .builtin .max=>match c.args.toList with | x::r=>(maxAV (ρ x) (r.map ρ)).bind fun v=>k v [] [] | []=>none
  | .builtin .min=>match c.args.toList with | x::r=>(minAV (ρ x) (r.map ρ)).bind fun v=>k v [] [] | []=>none
  | .builtin .clear =>
   match c.args.toList,c.argTypes.toList with
   | [x],[t] =>
    match ρ x,elemT E.P t with
    | .vw e' tg lo hi,some e =>
     match look tg,(zeros E.P e).bind ydUy with
     | some (.row e'' xs),some ds =>
      if e' = e∧e'' = e∧E.T.size e = E.P.cellsOf e then
       match E.T.dec e'' ds with
       | some z=>bif decide (0≤lo)&&(decide (lo≤hi)&&decide (hi.toNat≤xs.length)) then k (.tup []) [(tg,some (.row e'' (xs.take lo.toNat++(List.replicate (hi - lo).toNat z++xs.drop hi.toNat))))] [tg] else none
       | none=>none
      else none
     | _,_=>none
    | _,_=>none
   | _,_=>none
  | .builtin .delete =>
   match c.args.toList,c.argTypes.toList with
   | [x,i],t::_ =>
    match mapT E.P E.T t,ρ x with
    | some (ki,e),.mp tg =>
     match look tg,yePy E.T ki (ρ i) with
     | some (.mp k' e' m),some key =>
      match castM (k':=ki) (e':=e) m,E.keyed ki with
      | some m,true=>k (.tup []) [(tg,some (.mp ki e (delM E.T ki e key m)))] [tg]
      | _,_=>none
     | _,_=>none
    | _,_=>none
   | _,_=>none
  | .value f =>
   match ρ f with
   | .fn f caps=>callS E look k tags f caps (c.args.toList.map ρ)
   | .d (.clo f e xs)=>callS E look k tags f [.cel [.sl e xs] 0,.cel [.clo f e xs] 0] (c.args.toList.map ρ)
   | _=>none
  | _=>none
 | _=>none
end ops
def asked (ops:List Oper) (i:Nat):Bool:=ops.any fun o=>match o.guard with | some (j,_)=>j == i | none=>false
def occOb (t:Nat):Option (Ob A)→Bool
 | some (.box cs)=>yady t cs
 | _=>false
def occSt (t:Nat) (S:St A):Bool:=yady t S.fr || S.st.any (occOb t)
def yazy (S:St A) (u:Upd A):Bool:=u.all fun x=>x.2.isNone || ((S.look x.1).isSome || (decide (x.1 < S.st.length)&&!occSt x.1 S))
def Env.pinned (E:Env A) (o:Oper):Bool:=match o.dst with | some d=>E.pin.contains d | none=>false
def behind (ops:List Oper) (i:Nat) (o:Oper) (S:St A) (flt:AV A→Upd A→List Nat→Bool) {R:Type} (k:St A→List Nat→Option R) (v:AV A) (u:Upd A) (ts:List Nat):Option R :=
 bif !(yazy S u&&flt v u ts) then none else
  match asked ops i,v,o.dst with
  | true,.d (.bool b),some d=>bif b then k ((S.upd u).put (some d) (.d (.bool true))) ts else k ((S.upd u).put (some d) (.d (.bool false))) ts
  | _,v,d=>k ((S.upd u).put d v) ts
def stepK (E:Env A) (ops:List Oper) (i:Nat) (o:Oper) (S:St A) (flt:AV A→Upd A→List Nat→Bool) {R:Type} (k:St A→List Nat→Option R):Option R :=
 bif E.pinned o then none else
 match o.guard with
 | none=>opK E S.look (yafy S.fr) (behind ops i o S flt k) o
 | some (j,want) =>
  match (ops[j]?).bind (·.dst) with
  | none=>none
  | some d =>
   match (S.fr[d]?).getD .undef with
   | .d (.bool b)=>bif b == want then opK E S.look (yafy S.fr) (behind ops i o S flt k) o else behind ops i o S flt k (.tup []) [] []
   | .tup []=>behind ops i o S flt k (.tup []) [] []
   | _=>none
def regK (E:Env A) (ops:List Oper):List (Nat×Oper)→St A→{R:Type}→(St A→Option R)→Option R
 | [],S,_,k=>k S
 | (i,o)::r,S,_,k=>stepK E ops i o S (fun _ _ _=>true) fun S' _=>regK E ops r S' k
def yCvy:Builtin→Bool
 | .len=>true
 | .max=>true
 | .min=>true
 | _=>false
def yf6y:Op→Bool
 | .move _ | .assign _ | .pick _ _ _ | .binOp _ _ _ _ _ | .unOp _ _ _ | .convert _ _ _ | .extract _ _ | .makeFunc _ _ _ | .field _ _ _ | .index _ _ _=>true
 | .nilCheck _ | .fieldAddr _ _ _ | .indexAddr _ _ _ | .slice _ _ _ _ _ | .load _ _ | .build _ _ | .lookup _ _ _ _=>true
 | .call c=>match c.callee with | .builtin b=>yCvy b | _=>false
 | _=>false
def ykny:Op→Bool
 | .nilCheck _ | .fieldAddr _ _ _ | .indexAddr _ _ _ | .slice _ _ _ _ _ | .load _ _ | .build _ _ | .lookup _ _ _ _ | .call _=>true
 | _=>false
def ycpy (ops:Array Oper) (i j:Nat):Bool:=(ops[i]?).any fun o=>o.after.any fun e=>Region.binds .any e&&e.on == j
def yjYy (ops:Array Oper):Nat→Nat→Nat→Bool
 | 0,i,j=>ycpy ops i j
 | n + 1,i,j=>ycpy ops i j || (ops[i]?).any fun o=>o.after.any fun e=>Region.binds .any e&&yjYy ops n e.on j
def yfiy (ops:Array Oper) (i j:Nat):Bool:=yjYy ops 2 i j
def yaqy (ops:Array Oper) (listed:Array Bool):List Nat :=
 (List.range ops.size).filter fun i=>!listed.getD i true&&((ops[i]?).map (·.after.all fun e=>!Region.binds .any e || listed.getD e.on false)).getD false
def freeB (ops:Array Oper) (listed:Array Bool) (i:Nat):Bool :=
 (List.range ops.size).all fun j=>j == i || (listed.getD j true || (ycpy ops j i || match ops[i]?,ops[j]? with | some oi,some oj=>apartB ops.toList oi oj | _,_=>true))
where
 looks (ops:List Oper) (o:Oper):List Nat :=
  (o.op.operands.toList.filterMap fun | .tmp t=>some t | _=>none)++(match o.guard with | some (g,_)=>((ops[g]?).bind (·.dst)).toList | none=>[])
 apartB (ops:List Oper) (x y:Oper):Bool :=
  (match x.dst with | some d=>!(looks ops y).contains d&&y.dst != some d | none=>true)&&(match y.dst with | some d=>!(looks ops x).contains d | none=>true)
def yjsy:Op→Bool
 | .alloc _ | .box _ _ | .buildSlice _ _ _ | .makeSlice _ _ _ | .makeMap _ none=>true
 | _=>false
def ybJy (ops:Array Oper):Nat→Array Bool→Option (List (Nat×Nat))
 | 0,listed=>bif (yaqy ops listed).isEmpty then some [] else none
 | n + 1,listed =>
  match yaqy ops listed with
  | []=>some []
  | i::r =>
   match (i::r).find? fun i=>((ops[i]?).any (fun o=>yf6y o.op)&&freeB ops listed i)&&!r.isEmpty with
   | some i=>(ybJy ops n (listed.setIfInBounds i true)).map ((i,1)::·)
   | none =>
    match r with
    | []=>(ybJy ops n (listed.setIfInBounds i true)).map ((i,0)::·)
    | _ =>
     match (i::r).find? fun i=>(ops[i]?).any (fun o=>yjsy o.op)&&freeB ops listed i with
     | some i=>(ybJy ops n (listed.setIfInBounds i true)).map ((i,2)::·)
     | none=>none
def noTag:AV A→Bool
 | .undef | .d _ | .cel _ _ | .tup []=>true
 | .agg cs=>cs.all fun c=>match c with | .d _=>true | .undef=>true | _=>false
 | _=>false
def yhMy (S:St A) (o:Oper):Bool:=match o.dst with | some d=>noTag ((S.fr[d]?).getD .undef) | none=>true
def ykdy:AV A→Bool
 | .d _=>true
 | .agg cs=>cs.all fun c=>match c with | .d _=>true | _=>false
 | _=>false
def yj2y (S:St A) (o:Oper):Bool:=o.op.operands.all fun x=>ykdy (yafy S.fr x)
def ydiy (E:Env A) (ops:Array Oper) (al:List Nat) (j:Nat) (v:AV A) (u:Upd A):Bool :=
 al.all fun i=>i == j || (yfiy ops j i || match ops[i]?,ops[j]? with
  | some oi,some oj=>(E.tags oi).all fun t=>!(E.tags oj).contains t&&(!occAV t v&&u.all fun x=>x.1 != t&&!occOb t x.2)
  | _,_=>false)
def fltL (E:Env A) (ops:Array Oper) (al:List Nat) (i:Nat):AV A→Upd A→List Nat→Bool:=fun v u _=>u.isEmpty&&ydiy E ops al i v u
def ymvy:AV A→Option Nat
 | .own _ t | .ptr t _ | .elp _ t _ _ | .mp t | .vw _ t _ _=>some t
 | _=>none
def ygpy (E:Env A) (S:St A) (o:Oper):List Nat:=bif ykny o.op then (o.op.operands.toList.filterMap fun x=>ymvy (yafy S.fr x))++E.tags o else []
def rdOf (acc:List (Nat×List Nat)) (i:Nat):List Nat:=((acc.find? fun p=>p.1 == i).map (·.2)).getD []
def fltK (E:Env A) (ops:Array Oper) (al:List Nat) (acc:List (Nat×List Nat)) (j:Nat) (S:St A):AV A→Upd A→List Nat→Bool:=fun v u _ =>
 (acc.all fun p=>(u.all fun x=>!p.2.contains x.1) || (p.1 == j || (yfiy ops p.1 j || (yfiy ops j p.1 || u.all fun x=>(S.look x.1).isNone))))&&ydiy E ops al j v u
def offB (ops:List Oper) (S:St A) (o:Oper):Bool :=
 match o.guard with
 | none=>false
 | some (j,want) =>
  match (ops[j]?).bind (·.dst) with
  | none=>false
  | some d =>
   match (S.fr[d]?).getD .undef with
   | .d (.bool b)=>!(b == want)
   | .tup []=>true
   | _=>false
def fltA (E:Env A) (ops:Array Oper) (al:List Nat) (i:Nat) (o:Oper) (S:St A):AV A→Upd A→List Nat→Bool:=fun v u ts =>
 (match u,ts with
  | [(t,some _)],[t']=>t == t'&&(al.contains i&&((E.tags o).contains t&&((S.look t).isNone&&yj2y S o)))
  | [],[]=>offB ops.toList S o
  | _,_=>false)&&ydiy E ops al i v u
def drawK (E:Env A) (ops:Array Oper) (al:List Nat):List (Nat×List Nat)→List (Nat×Nat)→St A→{R:Type}→(St A→Option R)→Option R
 | _,[],S,_,k=>k S
 | acc,(i,b)::r,S,_,k =>
  match ops[i]? with
  | none=>none
  | some o =>
   match b with
   | 0=>stepK E ops.toList i o S (fltK E ops al acc i S) fun S' _=>drawK E ops al acc r S' k
   | 1=>bif !yhMy S o then none else stepK E ops.toList i o S (fltL E ops al i) fun S' _=>drawK E ops al ((i,ygpy E S o)::acc) r S' k
   | _=>bif !yhMy S o then none else stepK E ops.toList i o S (fltA E ops al i o S) fun S' _=>drawK E ops al acc r S' k
def renO (ps:List (Nat×Nat)) (t:Nat):Option Nat:=(ps.find? fun p=>p.1 == t).map (·.2)
mutual
def renAV (ps:List (Nat×Nat)):Nat→AV A→Option (AV A)
 | 0,_=>none
 | _ + 1,.undef=>some .undef
 | _ + 1,.d x=>some (.d x)
 | n + 1,.agg cs=>(ya1y ps n cs).map .agg
 | n + 1,.tup cs=>(ya1y ps n cs).map .tup
 | _ + 1,.own e t=>(renO ps t).map fun t=>.own e t
 | _ + 1,.ptr t o=>(renO ps t).map fun t=>.ptr t o
 | _ + 1,.elp e t i o=>(renO ps t).map fun t=>.elp e t i o
 | _ + 1,.cel c o=>some (.cel c o)
 | n + 1,.fn f cs=>(ya1y ps n cs).map (.fn f)
 | _ + 1,.mp t=>(renO ps t).map .mp
 | _ + 1,.vw e t lo hi=>(renO ps t).map fun t=>.vw e t lo hi
def ya1y (ps:List (Nat×Nat)):Nat→List (AV A)→Option (List (AV A))
 | 0,_=>none
 | _ + 1,[]=>some []
 | n + 1,v::vs=>(renAV ps n v).bind fun v=>(ya1y ps n vs).map (v::·)
end
def renOb (ps:List (Nat×Nat)):Ob A→Option (Ob A)
 | .box cs=>(ya1y ps 64 cs).map .box
 | o=>some o
def yc9y (fr:List (AV A)):List (Nat×Nat×Nat)→Option (List (Nat×Nat)×List (Nat×Nat×Nat))
 | []=>some ([],[])
 | (s,e,t)::r =>
  (yc9y fr r).bind fun (ps,ns) =>
   match (fr[s]?).getD .undef with
   | .own e' t0=>if e' = e then some ((t0,t)::ps,ns) else none
   | .d .nsl=>some (ps,(s,e,t)::ns)
   | _=>none
def ynty (S:St A):List (Nat×Nat×Nat)→St A
 | []=>S
 | (s,e,t)::r=>ynty { fr:=S.fr.set s (.own e t),st:=S.st.set t (some (.row e [])) } r
def yl2y (keep:List Nat) (fr:List (AV A)):List (AV A):=fr.zipIdx.map fun (v,i)=>if keep.contains i then v else .undef
def renSt (ps:List (Nat×Nat)) (look:Nat→Option (Ob A)):List (Nat×Nat)→List (Option (Ob A))→Option (List (Option (Ob A)))
 | [],acc=>some acc
 | (a,b)::r,acc=>(match look a with | some o=>(renOb ps o).map some | none=>some none).bind fun o=>renSt ps look r (acc.set b o)
def ygly (S:St A):List (Nat×Nat×Nat×Nat)→Option (St A)
 | []=>some S
 | (b,c,e,t)::r =>
  match S.look b with
  | some (.box cs) =>
   match cs[c]? with
   | some (.d .nsl) =>
    if (S.look t).isNone&&(!occSt t S&&decide (t < S.st.length)) then ygly { fr:=S.fr,st:=(S.st.set t (some (.row e []))).set b (some (.box (splice cs c [.own e t]))) } r else none
   | some _=>ygly S r
   | none=>none
  | _=>none
def ykty (S:St A):List (Nat×Nat×Nat×Nat)→Option (List (Nat×Nat))
 | []=>some []
 | (b,c,e,t)::r =>
  match S.look b with
  | some (.box cs) =>
   match cs[c]? with
   | some (.own e' t0)=>if e' = e then (ykty S r).map ((t0,t)::·) else none
   | some (.mp t0)=>(ykty S r).map ((t0,t)::·)
   | _=>none
  | _=>none
def yvRy (h:Hint) (S:St A) (bp:List (Nat×Nat)):Option (St A) :=
 (yc9y S.fr h.canon).bind fun (cp,ns) =>
  let ps:=cp++(bp++h.stay.map fun t=>(t,t))
  if ycky (ps.map (·.1))&&ycky (ps.map (·.2)++ns.map (·.2.2))&&ns.all (fun p=>decide (p.2.2 < S.st.length)) then
   (ya1y ps (S.fr.length + 64) (yl2y h.keep S.fr)).bind fun fr =>
    (renSt ps S.look ps (List.replicate S.st.length none)).bind fun st =>
     some (ynty { fr,st } ns)
  else none
def yjDy (S:St A):List Nat→Option (St A)
 | []=>some S
 | s::r =>
  match S.fr[s]? with
  | some v =>
   match toD S.look v with
   | some (d,u,_)=>yjDy { fr:=S.fr.set s (.d d),st:=(S.upd u).st } r
   | none=>none
  | none=>none
def ygry (S:St A):List (Nat×Nat)→Option (St A)
 | []=>some S
 | (b,c)::r =>
  match S.look b with
  | some (.box cs) =>
   match cs[c]? with
   | some v =>
    match toD S.look v with
    | some (d,u,_)=>if u.all (fun x=>x.1 != b) then ygry { fr:=S.fr,st:=(S.upd u).st.set b (some (.box (splice cs c [.d d]))) } r else none
    | none=>none
   | none=>none
  | none=>ygry S r
  | _=>none
mutual
def celAV (t:Nat) (ds:List (D A)):AV A→AV A
 | .ptr t' off=>if t' = t then .cel ds off else .ptr t' off
 | .agg cs=>.agg (ycMy t ds cs)
 | .tup cs=>.tup (ycMy t ds cs)
 | .fn f cs=>.fn f (ycMy t ds cs)
 | v=>v
def ycMy (t:Nat) (ds:List (D A)):List (AV A)→List (AV A)
 | []=>[]
 | x::xs=>celAV t ds x::ycMy t ds xs
end
def celOb (t:Nat) (ds:List (D A)):Option (Ob A)→Option (Ob A)
 | some (.box cs)=>some (.box (ycMy t ds cs))
 | o=>o
def yfqy:List (AV A)→Option (List (D A))
 | []=>some []
 | .d x::r=>(yfqy r).map (x::·)
 | _=>none
def selfD (t:Nat):List (AV A)→Option (List (D A))
 | [.fn f [.cel [.sl e xs] 0,.ptr t' 0]]=>if t' = t then some [.clo f e xs] else none
 | cs=>yfqy cs
def celBox (S:St A):List Nat→Option (St A)
 | []=>some S
 | t::r =>
  match S.look t with
  | some (.box cs) =>
   match selfD t cs with
   | some ds=>celBox { fr:=ycMy t ds S.fr,st:=(S.st.map (celOb t ds)).set t none } r
   | none=>none
  | none=>celBox S r
  | _=>none
def canon (h:Hint) (S:St A):Option (St A):=(yjDy S h.data).bind fun S=>(ygry S h.shut).bind fun S=>(celBox S h.cels).bind fun S=>(ygly S h.boxes).bind fun S=>(ykty S h.boxes).bind fun bp=>yvRy h S bp
def canonAt (h:Option Hint) (S:St A) {R:Type} (k:St A→Option R):Option R :=
 match h with
 | none=>k S
 | some h=>match canon h S with | some S'=>k S' | none=>none
def yagy:Code→Option Nat
 | .region id _ _=>some id
 | .seq a b=>match yagy a with | some i=>some i | none=>yagy b
 | .cond _ a _=>yagy a
 | .block _ b=>yagy b
 | .loop b=>yagy b
 | _=>none
def aloop {R:Type} (body:St A→(Ex→St A→Option R)→Option R):Nat→St A→(Ex→St A→Option R)→Option R
 | 0,_,_=>none
 | n + 1,S,K=>body S fun e S'=>match e with | .normal=>aloop body n S' K | e=>K e S'
def yb1y (run:Piece A) (h hx:Option Hint):Piece A:=fun S _ K =>
 run S fun e S'=>match e with | .normal=>canonAt h S' (fun S1=>K .normal S1) | e=>canonAt hx S' (fun S1=>K e S1)
def aexec (E:Env A) (n:Nat):Code→St A→{R:Type}→(Ex→St A→Option R)→Option R
 | .skip,S,_,K=>K .normal S
 | .region _ ops false,S,_,K=>regK E ops.toList (ops.toList.zipIdx.map fun (o,i)=>(i,o)) S fun S'=>K .normal S'
 | .region _ ops true,S,_,K=>match ybJy ops ops.size (Array.replicate ops.size false) with | some l=>drawK E ops ((l.filter fun p=>p.2 == 2).map (·.1)) [] l S fun S'=>K .normal S' | none=>none
 | .seq a b,S,_,K=>aexec E n a S fun e S' =>
   match e with
   | .normal=>canonAt ((yagy b).bind E.seqH) S' fun S'' =>
    match (yagy b).bind E.cutS with
    | some f=>f S'' K
    | none=>aexec E n b S'' K
   | e=>K e S'
 | .cond c a b,S,_,K =>
  match yafy S.fr c with
  | .d (.bool t)=>bif t then aexec E n a S K else aexec E n b S K
  | _=>none
 | .block id b,S,_,K=>aexec E n b S fun e S' =>
   match e with
   | .exit i=>if i = id then K .normal S' else K (.exit i) S'
   | e=>K e S'
 | .loop b,S,_,K =>
  canonAt ((yagy b).bind E.loopH) S fun S0 =>
   match (yagy b).bind E.cutL with
   | some f=>f S0 K
   | none=>aloop (fun S K=>yb1y (fun S _ K=>aexec E n b S K) ((yagy b).bind E.loopH) ((yagy b).bind E.exitH) S K) n S0 K
 | .exit id,S,_,K=>K (.exit id) S
 | .ret,S,_,K=>K .ret S
 | _,_,_,_=>none
inductive Shape where
 | asis | arr (e:Nat) | frz (e:Nat)
 deriving DecidableEq
def ycYy (look:Nat→Option (Ob A)):List Shape→List (AV A)→Option (List (IV A)×List Nat×List Nat)
 | _,[]=>some ([],[],[])
 | sh,v::vs=>(ycYy look sh.tail vs).bind fun (xs,ts,fz) =>
  match sh.headD .asis,v with
  | .frz _,.own _ t =>
   match look t with
   | some (.row e xs')=>some (.d (.sl e xs')::xs,ts,t::fz)
   | some (.frz e xs')=>some (.d (.sl e xs')::xs,ts,t::fz)
   | _=>none
  | .arr e,.d .nsl=>some (.arr e []::xs,ts,fz)
  | .frz e,.d .nsl=>some (.d (.sl e [])::xs,ts,fz)
  | _,v=>(hand look 64 v).bind fun x=>some (x.1::xs,x.2++ts,fz)
def resAV (P:Program) (S:St A):ResultVar→Option (AV A)
 | .tmp t=>S.fr[t]?
 | .cell a t =>
  match (S.fr[a]?).getD .undef with
  | .ptr tg off=>match S.look tg with | some (.box cs)=>ybUy P t cs off | _=>none
  | _=>none
def yily (P:Program) (S:St A):List ResultVar→Option (List (AV A))
 | []=>some []
 | r::rs=>(resAV P S r).bind fun v=>(yily P S rs).map (v::·)
def yeOy (look:Nat→Option (Ob A)) (pin:List Nat) (fr:List (AV A)):Nat→Nat→Option (List (IV A)×List Nat)
 | _,0=>some ([],[])
 | i,n + 1=>(yeOy look pin fr (i + 1) n).bind fun (xs,ts) =>
  match pin.contains i,(fr[i]?).getD .undef with
  | true,.d _=>some (.undef::xs,ts)
  | true,.own e t=>match look t with | some (.row e' ys)=>if e' = e then some (.arr e' ys::xs,t::ts) else none | _=>some (.undef::xs,ts)
  | true,v=>(hand look 64 v).bind fun x=>some (x.1::xs,x.2++ts)
  | false,_=>some (.undef::xs,ts)
def yejy (E:Env A) (sh:List Shape) (rs:List ResultVar) (na:Nat) (S:St A) {R:Type} (k:IV A→List (IV A)→Option R):Option R :=
 match yily E.P S rs with
 | none=>none
 | some vs =>
  match ycYy S.look sh vs,yeOy S.look E.pin S.fr 0 na with
  | some (xs,ts,fz),some (ys,us) =>
   if ycky (ts++us)&&fz.all (fun t=>!(ts++us).contains t) then k (match xs with | [x]=>x | xs=>.tup xs) ys else none
  | _,_=>none
def abody (E:Env A) (fn:Func) (code:Code) (nst:Nat) (argTags:List Nat) (sh:List Shape) (n:Nat):Spec A:=fun args _ k =>
 match yaLy 64 args argTags with
 | some (vs,u,_) =>
  bif ycky argTags&&(argTags.all (fun t=>decide (t < nst))&&E.pin.all (fun i=>decide (i < vs.length))) then
  aexec E n code (St.upd { fr:=vs++List.replicate (fn.ntmps - vs.length) .undef,st:=List.replicate nst none } u) fun e S =>
   match e with
   | .normal | .ret=>yejy E sh fn.results.toList vs.length S k
   | .exit _=>none
  else none
 | none=>none
end Go.Am
