/- Part of an abstract machine for this program, with its soundness: AmShape. No condition: lemmas for the claim. -/
import Derived.Test.YtoajjnhmofegcaaGreatDoorAmBody
set_option linter.unusedVariables false
set_option linter.unusedSimpArgs false
namespace Go.Am
open Go
variable {A:Nat→Type}
inductive SV where
 | undef | int (k:IntKind) | bool | str | sl (e:Nat) | nsl | nilif | anyif | clo (f e:Nat)
 | agg (l:List SV) | tup (l:List SV) | own (e t:Nat) | ptr (t off:Nat) | fn (f:Nat) (l:List SV) | mp (t:Nat) | vw (e t:Nat) | cel (l:List SV) (off:Nat)
inductive SO where
 | none | row (e:Nat) | frz (e:Nat) | box (l:List SV) | mp (k e:Nat) | gone (k:Nat×Nat) | bld
inductive Pv (A:Nat→Type):Type where
 | d (x:D A)
 | mp (k e:Nat) (m:List (A k×A e))
 | z (n:Int)
mutual
def decV:Nat→SV→AV A→Option (List (Pv A))
 | 0,_,_=>none
 | n + 1,s,v =>
  match s,v with
  | .undef,.undef=>some []
  | .int k,.d (.int k' x)=>if k' = k then some [.d (.int k x)] else none
  | .bool,.d (.bool b)=>some [.d (.bool b)]
  | .str,.d (.str s)=>some [.d (.str s)]
  | .sl e,.d (.sl e' xs)=>if e' = e then some [.d (.sl e' xs)] else none
  | .nsl,.d .nsl=>some []
  | .nilif,.d .nilif=>some []
  | .anyif,.d .anyif=>some []
  | .clo f e,.d (.clo f' e' xs)=>if f' = f∧e' = e then some [.d (.sl e' xs)] else none
  | .agg l,.agg cs=>decVs n l cs
  | .tup l,.tup cs=>decVs n l cs
  | .own e t,.own e' t'=>if e' = e∧t' = t then some [] else none
  | .ptr t o,.ptr t' o'=>if t' = t∧o' = o then some [] else none
  | .fn f l,.fn f' cs=>if f' = f then decVs n l cs else none
  | .mp t,.mp t'=>if t' = t then some [] else none
  | .vw e t,.vw e' t' lo hi=>if e' = e∧t' = t then some [.z lo,.z hi] else none
  | .cel l o,.cel cs o'=>if o' = o then decVs n l (cs.map .d) else none
  | _,_=>none
def decVs:Nat→List SV→List (AV A)→Option (List (Pv A))
 | 0,_,_=>none
 | _ + 1,[],[]=>some []
 | n + 1,s::ss,v::vs=>(decV n s v).bind fun a=>(decVs n ss vs).map (a++·)
 | _ + 1,_,_=>none
end
mutual
def encV:Nat→SV→List (Pv A)→Option (AV A×List (Pv A))
 | 0,_,_=>none
 | n + 1,s,r =>
  match s,r with
  | .undef,r=>some (.undef,r)
  | .int k,.d (.int _ n)::r=>some (.d (.int k n),r)
  | .bool,.d (.bool b)::r=>some (.d (.bool b),r)
  | .str,.d (.str s)::r=>some (.d (.str s),r)
  | .sl _,.d (.sl e xs)::r=>some (.d (.sl e xs),r)
  | .nsl,r=>some (.d .nsl,r)
  | .nilif,r=>some (.d .nilif,r)
  | .anyif,r=>some (.d .anyif,r)
  | .clo f _,.d (.sl e xs)::r=>some (.d (.clo f e xs),r)
  | .agg l,r=>(encVs n l r).map fun (cs,r)=>(.agg cs,r)
  | .tup l,r=>(encVs n l r).map fun (cs,r)=>(.tup cs,r)
  | .own e t,r=>some (.own e t,r)
  | .ptr t o,r=>some (.ptr t o,r)
  | .fn f l,r=>(encVs n l r).map fun (cs,r)=>(.fn f cs,r)
  | .mp t,r=>some (.mp t,r)
  | .vw e t,.z lo::.z hi::r=>some (.vw e t lo hi,r)
  | .cel l o,r=>(encVs n l r).bind fun (cs,r)=>(yfqy cs).map fun ds=>(.cel ds o,r)
  | _,_=>none
def encVs:Nat→List SV→List (Pv A)→Option (List (AV A)×List (Pv A))
 | 0,_,_=>none
 | _ + 1,[],r=>some ([],r)
 | n + 1,s::ss,r=>(encV n s r).bind fun (v,r)=>(encVs n ss r).map fun (vs,r)=>(v::vs,r)
end
theorem yqgy:∀ ds:List (D A),yfqy (ds.map .d) = some ds
 | []=>rfl
 | d::ds=>by
  show (yfqy (ds.map .d)).map (d::·) = some (d::ds)
  rw [yqgy ds];rfl
theorem yEQy:∀ n:Nat,
  (∀ (s:SV) (v:AV A) ps,decV n s v = some ps→∀ r,encV n s (ps++r) = some (v,r)) ∧
  (∀ (ss:List SV) (vs:List (AV A)) ps,decVs n ss vs = some ps→∀ r,encVs n ss (ps++r) = some (vs,r)):=by
 intro n
 induction n with
 | zero=>exact ⟨fun s v ps h=>by simp [decV] at h,fun s v ps h=>by simp [decVs] at h⟩
 | succ n ih =>
  refine ⟨fun s v ps h r=>?_,fun ss vs ps h r=>?_⟩
  ·cases s with
   | undef=>cases v <;> simp only [decV] at h <;> (try cases h;done);cases h;rfl
   | int k =>
    cases v <;> simp only [decV] at h <;> (try cases h;done)
    rename_i d
    cases d <;> simp only [decV] at h <;> (try cases h;done)
    split at h
    ·rename_i hk;cases h;subst hk;rfl
    ·cases h
   | bool =>
    cases v <;> simp only [decV] at h <;> (try cases h;done)
    rename_i d
    cases d <;> simp only [decV] at h <;> (try cases h;done)
    cases h;rfl
   | str =>
    cases v <;> simp only [decV] at h <;> (try cases h;done)
    rename_i d
    cases d <;> simp only [decV] at h <;> (try cases h;done)
    cases h;rfl
   | sl e =>
    cases v <;> simp only [decV] at h <;> (try cases h;done)
    rename_i d
    cases d <;> simp only [decV] at h <;> (try cases h;done)
    split at h
    ·cases h;rfl
    ·cases h
   | nsl =>
    cases v <;> simp only [decV] at h <;> (try cases h;done)
    rename_i d
    cases d <;> simp only [decV] at h <;> (try cases h;done)
    cases h;rfl
   | nilif =>
    cases v <;> simp only [decV] at h <;> (try cases h;done)
    rename_i d
    cases d <;> simp only [decV] at h <;> (try cases h;done)
    cases h;rfl
   | anyif =>
    cases v <;> simp only [decV] at h <;> (try cases h;done)
    rename_i d
    cases d <;> simp only [decV] at h <;> (try cases h;done)
    cases h;rfl
   | clo f e =>
    cases v <;> simp only [decV] at h <;> (try cases h;done)
    rename_i d
    cases d <;> simp only [decV] at h <;> (try cases h;done)
    split at h
    ·rename_i hk;cases h;obtain ⟨rfl,rfl⟩:=hk;rfl
    ·cases h
   | agg l =>
    cases v <;> simp only [decV] at h <;> (try cases h;done)
    simp only [encV,ih.2 l _ ps h r,Option.map_some]
   | tup l =>
    cases v <;> simp only [decV] at h <;> (try cases h;done)
    simp only [encV,ih.2 l _ ps h r,Option.map_some]
   | own e t =>
    cases v <;> simp only [decV] at h <;> (try cases h;done)
    split at h
    ·rename_i hk;cases h;obtain ⟨rfl,rfl⟩:=hk;rfl
    ·cases h
   | ptr t o =>
    cases v <;> simp only [decV] at h <;> (try cases h;done)
    split at h
    ·rename_i hk;cases h;obtain ⟨rfl,rfl⟩:=hk;rfl
    ·cases h
   | cel l o =>
    cases v <;> simp only [decV] at h <;> (try cases h;done)
    split at h
    ·rename_i hk
     subst hk
     simp only [encV,ih.2 l _ ps h r,Option.bind_some,yqgy,Option.map_some]
    ·cases h
   | fn f l =>
    cases v <;> simp only [decV] at h <;> (try cases h;done)
    split at h
    ·rename_i hk
     subst hk
     simp only [encV,ih.2 l _ ps h r,Option.map_some]
    ·cases h
   | mp t =>
    cases v <;> simp only [decV] at h <;> (try cases h;done)
    split at h
    ·rename_i hk;cases h;subst hk;rfl
    ·cases h
   | vw e t =>
    cases v <;> simp only [decV] at h <;> (try cases h;done)
    split at h
    ·rename_i hk;cases h;obtain ⟨rfl,rfl⟩:=hk;rfl
    ·cases h
  ·cases ss with
   | nil =>
    cases vs <;> simp only [decVs] at h <;> (try cases h;done)
    cases h;rfl
   | cons s ss =>
    cases vs with
    | nil=>simp only [decVs] at h;cases h
    | cons v vs =>
     simp only [decVs] at h
     cases h1:decV n s v with
     | none=>simp [h1] at h
     | some a =>
      cases h2:decVs n ss vs with
      | none=>simp [h1,h2] at h
      | some b =>
       simp [h1,h2] at h
       subst h
       simp only [encVs,List.append_assoc]
       rw [ih.1 s v a h1 (b++r)]
       simp only [Option.bind_some,ih.2 ss vs b h2 r,Option.map_some]
theorem ysyy (n:Nat) (ss:List SV) (vs:List (AV A)) (ps:List (Pv A)) (h:decVs n ss vs = some ps) (r:List (Pv A)):encVs n ss (ps++r) = some (vs,r):=(yEQy n).2 ss vs ps h r
def decO:SO→Option (Ob A)→Option (List (Pv A))
 | .none,none=>some []
 | .row e,some (.row e' xs)=>if e' = e then some [.d (.sl e' xs)] else none
 | .frz e,some (.frz e' xs)=>if e' = e then some [.d (.sl e' xs)] else none
 | .box l,some (.box cs)=>decVs 512 l cs
 | .mp k e,some (.mp k' e' m)=>if k' = k∧e' = e then some [.mp k' e' m] else none
 | .gone k,some (.gone k')=>if k' = k then some [] else none
 | .bld,some (.bld s)=>some [.d (.str s)]
 | _,_=>none
def decOs:List SO→List (Option (Ob A))→Option (List (Pv A))
 | [],[]=>some []
 | s::ss,v::vs=>(decO s v).bind fun a=>(decOs ss vs).map (a++·)
 | _,_=>none
def encO:SO→List (Pv A)→Option (Option (Ob A)×List (Pv A))
 | .none,r=>some (none,r)
 | .row _,.d (.sl e xs)::r=>some (some (.row e xs),r)
 | .frz _,.d (.sl e xs)::r=>some (some (.frz e xs),r)
 | .box l,r=>(encVs 512 l r).map fun (cs,r)=>(some (.box cs),r)
 | .mp _ _,.mp k e m::r=>some (some (.mp k e m),r)
 | .gone k,r=>some (some (.gone k),r)
 | .bld,.d (.str s)::r=>some (some (.bld s),r)
 | _,_=>none
def encOs:List SO→List (Pv A)→Option (List (Option (Ob A))×List (Pv A))
 | [],r=>some ([],r)
 | s::ss,r=>(encO s r).bind fun (v,r)=>(encOs ss r).map fun (vs,r)=>(v::vs,r)
theorem yDVy (s:SO) (v:Option (Ob A)) (ps:List (Pv A)) (h:decO s v = some ps) (r:List (Pv A)):encO s (ps++r) = some (v,r):=by
 cases s <;> cases v <;> simp only [decO] at h <;> (try cases h;done)
 case none.none=>cases h;rfl
 case row.some e o =>
  cases o <;> simp only at h <;> (try cases h;done)
  split at h
  ·cases h;rfl
  ·cases h
 case frz.some e o =>
  cases o <;> simp only at h <;> (try cases h;done)
  split at h
  ·cases h;rfl
  ·cases h
 case mp.some k e o =>
  cases o <;> simp only at h <;> (try cases h;done)
  split at h
  ·cases h;rfl
  ·cases h
 case gone.some k o =>
  cases o <;> simp only at h <;> (try cases h;done)
  split at h
  ·rename_i hk;cases h;subst hk;rfl
  ·cases h
 case bld.some o =>
  cases o <;> simp only at h <;> (try cases h;done)
  cases h;rfl
 case box.some l o =>
  cases o <;> simp only at h <;> (try cases h;done)
  simp only [encO,ysyy 512 l _ ps h r,Option.map_some]
theorem yrXy:∀ (ss:List SO) (vs:List (Option (Ob A))) ps,decOs ss vs = some ps→∀ r,encOs ss (ps++r) = some (vs,r)
 | [],[],ps,h,r=>by simp only [decOs] at h;cases h;rfl
 | [],_::_,ps,h,r=>by simp only [decOs] at h;cases h
 | _::_,[],ps,h,r=>by simp only [decOs] at h;cases h
 | s::ss,v::vs,ps,h,r=>by
  simp only [decOs] at h
  cases h1:decO s v with
  | none=>simp [h1] at h
  | some a =>
   cases h2:decOs ss vs with
   | none=>simp [h1,h2] at h
   | some b =>
    simp [h1,h2] at h
    subst h
    simp only [encOs,List.append_assoc]
    rw [yDVy s v a h1 (b++r)]
    simp only [Option.bind_some,yrXy ss vs b h2 r,Option.map_some]
structure SSt where
 fr:List SV
 st:List SO
def decSt (s:SSt) (S:St A):Option (List (Pv A)):=(decVs 1024 s.fr S.fr).bind fun a=>(decOs s.st S.st).map (a++·)
def encSt (s:SSt) (ps:List (Pv A)):Option (St A):=(encVs 1024 s.fr ps).bind fun (fr,r)=>(encOs s.st r).bind fun (st,r)=>match r with | []=>some { fr,st } | _=>none
theorem yi2y {s:SSt} {S:St A} {ps:List (Pv A)} (h:decSt s S = some ps):encSt s ps = some S:=by
 unfold decSt at h
 cases h1:decVs 1024 s.fr S.fr with
 | none=>simp [h1] at h
 | some a =>
  cases h2:decOs s.st S.st with
  | none=>simp [h1,h2] at h
  | some b =>
   simp [h1,h2] at h
   subst h
   unfold encSt
   rw [ysyy _ _ _ _ h1 b]
   simp only [Option.bind_some]
   have:=yrXy _ _ _ h2 []
   rw [List.append_nil] at this
   rw [this]
   rfl
def ypQy {α:Type} (d:α) (n:Nat) (l:List (Nat×α)):List α:=l.foldl (fun a p=>a.set p.1 p.2) (List.replicate n d)
end Go.Am
