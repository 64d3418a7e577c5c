/- Part of an abstract machine for this program, with its soundness: AmOps. No condition: lemmas for the claim. -/
import Derived.Test.YtoajjnhmofegcaaGreatDoorAmRel
set_option linter.unusedVariables false
set_option linter.unusedSimpArgs false
namespace Go.Am
open Go
variable {A:Nat→Type}
variable {T:Ty A} {w0 w w':World} {F0:List Nat} {X:Nat→Prop} {γ γ':Nat→Value} {φ φ':Nat→List Nat} {av av':Nat→Prop} {tmps:Array Value} {S S':St A} {R:Type} {P:Program}
def Did (T:Ty A) (w0:World) (F0:List Nat) (X:Nat→Prop) (tmps:Array Value) (S:St A) (k:AV A→Upd A→List Nat→Option R) (res:R) (r:Result Next):Prop :=
 ∃ u w',(r = .ok (.value u) w' ∨ (r = .ok .skip w'∧u = undef))∧∃ v upd ts γ' φ' av',k v upd ts = some res∧Rel T w0 F0 X γ' φ' av' w' tmps (S.upd upd)∧RAV T w' av' (S.upd upd).look γ' v u
variable {k:AV A→Upd A→List Nat→Option R} {res:R}
theorem yaty (h:Rel T w0 F0 X γ φ av w tmps S) {r:Result Next} {u:Value} {v:AV A} {ts:List Nat} (hk:k v [] ts = some res) (hr:r = .ok (.value u) w) (hv:RAV T w av S.look γ v u) :
  Did T w0 F0 X tmps S k res r:=⟨u,w,.inl hr,v,[],ts,γ,φ,av,hk,h,hv⟩
theorem DR.int {w:World} {av:Nat→Prop} {ki:IntKind} {n:Int} {v:Value}:DR T w av (.int ki n) v ↔ v = .int ki n :=
 ⟨fun ⟨n,h⟩=>by cases n <;> simpa [DRep] using h,fun h=>⟨0,by simpa [DRep] using h⟩⟩
theorem DR.bool {w:World} {av:Nat→Prop} {b:Bool} {v:Value}:DR T w av (.bool b) v ↔ v = .bool b :=
 ⟨fun ⟨n,h⟩=>by cases n <;> simpa [DRep] using h,fun h=>⟨0,by simpa [DRep] using h⟩⟩
theorem DR.str {w:World} {av:Nat→Prop} {s:List UInt8} {v:Value}:DR T w av (.str s) v ↔ v = .string ⟨⟨s⟩⟩ :=
 ⟨fun ⟨n,h⟩=>by cases n <;> simpa [DRep] using h,fun h=>⟨0,by simpa [DRep] using h⟩⟩
theorem DR.nsl {w:World} {av:Nat→Prop} {v:Value}:DR T w av .nsl v ↔ v = .slice none 0 0 :=
 ⟨fun ⟨n,h⟩=>by cases n <;> simpa [DRep] using h,fun h=>⟨0,by simpa [DRep] using h⟩⟩
theorem DR.nilif {w:World} {av:Nat→Prop} {v:Value}:DR T w av .nilif v ↔ v = .nilIface :=
 ⟨fun ⟨n,h⟩=>by cases n <;> simpa [DRep] using h,fun h=>⟨0,by simpa [DRep] using h⟩⟩
theorem DR.anyif {w:World} {av:Nat→Prop} {v:Value}:DR T w av .anyif v ↔ ∃ t x,v = .iface t x :=
 ⟨fun ⟨n,h⟩=>by cases n <;> simpa [DRep] using h,fun h=>⟨0,by simpa [DRep] using h⟩⟩
theorem DR.lit {w:World} {av:Nat→Prop} {u v:Value}:DR T w av (.lit u) v ↔ v = u∧u.oneCell' = true :=
 ⟨fun ⟨n,h⟩=>by cases n <;> simpa [DRep] using h,fun h=>⟨0,by simpa [DRep] using h⟩⟩
theorem DR.sl {w:World} {av:Nat→Prop} {e:Nat} {xs:List (A e)} {v:Value} (h:DR T w av (.sl e xs) v) :
  ∃ a cap,v = .slice a xs.length cap∧xs.length≤cap∧(xs≠[]→∃ b o c ty fz,a = some ⟨b,o,none⟩∧¬ av b∧w.heap[b]? = some (.cells c ty fz)∧Row T w av c o e xs):=by
 obtain ⟨n,h⟩:=h
 cases n with
 | zero=>simp only [DRep] at h;obtain ⟨rfl,a,cap,rfl,_⟩:=h;exact ⟨a,cap,rfl,Nat.zero_le _,fun hne=>absurd rfl hne⟩
 | succ n =>
  simp only [DRep] at h
  obtain ⟨a,cap,rfl,_,hcap,hx⟩:=h
  refine ⟨a,cap,rfl,hcap,fun hne=>?_⟩
  obtain ⟨b,o,c,ty,fz,ha,hav,hb,hc⟩:=hx hne
  refine ⟨b,o,c,ty,fz,ha,hav,hb,fun i x hi j d hj=>?_⟩
  obtain ⟨u,hu,hd⟩:=hc i x hi j d hj
  exact ⟨u,hu,n,hd⟩
theorem DR.sl_plain {w:World} {av:Nat→Prop} {e:Nat} {xs:List (A e)} {a:Option Addr} {n c:Nat} (h:DR T w av (.sl e xs) (.slice a n c)):yqxy a:=by
 obtain ⟨m,h⟩:=h
 cases m with
 | zero=>simp only [DRep] at h;obtain ⟨rfl,a,cap,h,hp⟩:=h;cases h;exact hp
 | succ m=>simp only [DRep] at h;obtain ⟨a,cap,h,hp,_⟩:=h;cases h;exact hp
theorem yr4y {α:Type} (p:Nat→α→Prop) (hup:∀ n a,p n a→p (n + 1) a):∀ (l:List α),(∀ a∈l,∃ n,p n a)→∃ N,∀ a∈l,p N a
 | [],_=>⟨0,fun a ha=>by simp at ha⟩
 | x::xs,h=>by
  obtain ⟨N,hN⟩:=yr4y p hup xs (fun a ha=>h a (by simp [ha]))
  obtain ⟨n,hn⟩:=h x (by simp)
  have hle:∀ m k a,m≤k→p m a→p k a:=by
   intro m k a hmk hp
   induction hmk with
   | refl=>exact hp
   | step _ ih=>exact hup _ _ ih
  refine ⟨max N n,fun a ha=>?_⟩
  rcases List.mem_cons.1 ha with rfl | ha
  ·exact hle _ _ _ (Nat.le_max_right _ _) hn
  ·exact hle _ _ _ (Nat.le_max_left _ _) (hN a ha)
theorem DR.of_row {w:World} {av:Nat→Prop} {e:Nat} {xs:List (A e)} {a:Option Addr} {cap:Nat} (hpa:yqxy a) (hcap:xs.length≤cap)
  (h:xs≠[]→∃ b o c ty fz,a = some ⟨b,o,none⟩∧¬ av b∧w.heap[b]? = some (.cells c ty fz)∧Row T w av c o e xs):DR T w av (.sl e xs) (.slice a xs.length cap):=by
 by_cases hne:xs = []
 ·subst hne
  exact ⟨0,by simp [DRep,hpa]⟩
 ·obtain ⟨b,o,c,ty,fz,ha,hav,hb,hrow⟩:=h hne
  have hall:=yr4y (α:=Nat×Nat) (fun n p=>∀ x,xs[p.1]? = some x→∀ d,(T.enc e x)[p.2]? = some d→∃ u,c[o + p.1 * T.size e + p.2]? = some u∧DRep T w av n d u)
   (fun n p hp x hx d hd=>by obtain ⟨u,hu,hr⟩:=hp x hx d hd;exact ⟨u,hu,hr.up⟩)
   ((List.range xs.length).flatMap fun i=>(List.range (match xs[i]? with | some x=>(T.enc e x).length | none=>0)).map fun j=>(i,j))
   (by
    rintro ⟨i,j⟩ _
    by_cases hp:∃ x d,xs[i]? = some x∧(T.enc e x)[j]? = some d
    ·obtain ⟨x,d,hx,hd⟩:=hp
     obtain ⟨u,hu,n,hr⟩:=hrow i x hx j d hd
     refine ⟨n,fun x' hx' d' hd'=>?_⟩
     have h1:x' = x:=by rw [hx] at hx';exact (Option.some.inj hx').symm
     subst h1
     have h2:d' = d:=by rw [hd] at hd';exact (Option.some.inj hd').symm
     subst h2
     exact ⟨u,hu,hr⟩
    ·exact ⟨0,fun x' hx' d' hd'=>absurd ⟨x',d',hx',hd'⟩ hp⟩)
  obtain ⟨N,hN⟩:=hall
  refine ⟨N + 1,?_⟩
  simp only [DRep]
  refine ⟨a,cap,rfl,hpa,hcap,fun _=>⟨b,o,c,ty,fz,ha,hav,hb,fun i x hi j d hj=>?_⟩⟩
  refine hN (i,j) ?_ x hi d hj
  simp only [List.mem_flatMap,List.mem_map,List.mem_range,Prod.mk.injEq]
  refine ⟨i,?_,j,?_,rfl,rfl⟩
  ·rcases Nat.lt_or_ge i xs.length with h | h
   ·exact h
   ·rw [List.getElem?_eq_none h] at hi;cases hi
  ·rw [hi]
   rcases Nat.lt_or_ge j (T.enc e x).length with h | h
   ·exact h
   ·rw [List.getElem?_eq_none h] at hj;cases hj
theorem addr_add (b o n:Nat):(⟨b,o,none⟩:Addr).add n = ⟨b,o + n,none⟩:=by
 unfold Addr.add
 split
 ·rename_i h;subst h;rfl
 ·rfl
theorem ynby {b j:Nat} {c:Array Value} {ty:TypeId} {fz:Nat×Nat} (h:w.heap[b]? = some (.cells c ty fz)):w.cell? ⟨b,j,none⟩ = c[j]?:=by simp [World.cell?,h]
theorem DR.one {w:World} {av:Nat→Prop} {x:D A} {v:Value} (h:DR T w av x v):v.oneCell' = true:=by
 obtain ⟨n,hn⟩:=h
 cases x with
 | sl e xs=>cases n <;> (simp only [DRep] at hn;first | (obtain ⟨_,a,cap,rfl,_⟩:=hn;rfl) | (obtain ⟨a,cap,rfl,_,_⟩:=hn;rfl))
 | anyif=>cases n <;> (simp only [DRep] at hn;obtain ⟨t,x,rfl⟩:=hn;rfl)
 | clo f e xs=>cases n with | zero=>exact hn.elim | succ n=>(simp only [DRep] at hn;obtain ⟨_,_,_,_,_,_,_,_,_,_,rfl,_⟩:=hn;rfl)
 | lit u=>cases n <;> (simp only [DRep] at hn;rw [hn.1];exact hn.2)
 | _=>cases n <;> (simp only [DRep] at hn;subst hn;rfl)
theorem yAKy {v:Value} (h:v.oneCell' = true):v.cells = #[v]:=by cases v <;> first | rfl | simp [Value.oneCell'] at h
theorem Rel.live (h:Rel T w0 F0 X γ φ av w tmps S) {t:Nat} (hs:(S.look t).isSome = true):∃ o,S.look t = some o∧ROb T w av S.look γ φ t o:=by
 obtain ⟨o,ho⟩:=Option.isSome_iff_exists.1 hs
 exact ⟨o,ho,h.ob t o ho⟩
theorem Rel.one (h:Rel T w0 F0 X γ φ av w tmps S) {x:AV A} {v:Value} (hx:RAV T w av S.look γ x v) (h1:oneB S.look x = true):v.oneCell' = true:=by
 cases x with
 | d x=>simp only [RAV] at hx;exact hx.one
 | own e t =>
  simp only [oneB] at h1
  obtain ⟨o,ho,hr⟩:=h.live h1
  simp only [RAV] at hx
  obtain ⟨hv,hxs⟩:=hx o ho
  rw [hv]
  cases o with
  | row e' xs =>
   simp only [ROb,RIV] at hr
   obtain ⟨ob,_,hs,_⟩:=hr
   cases ob with
   | none=>simp only [OwnSl] at hs;rw [hs.2];rfl
   | some b=>simp only [OwnSl] at hs;obtain ⟨cap,c,ty,hv,_⟩:=hs;rw [hv];rfl
  | frz e' xs=>simp only [ROb] at hr;exact hr.2.1.one
  | box cs=>simp [Ob.kind] at hxs
  | bld s=>simp [Ob.kind] at hxs
  | mp k e m=>simp [Ob.kind] at hxs
  | gone k=>simp only [ROb] at hr;exact hr.2
 | ptr t off =>
  simp only [oneB] at h1
  obtain ⟨o,ho,hr⟩:=h.live h1
  simp only [RAV] at hx
  obtain ⟨⟨b,_,hv⟩,_⟩:=hx o ho
  rw [hv];rfl
 | elp e t i off =>
  simp only [oneB] at h1
  obtain ⟨o,ho,hr⟩:=h.live h1
  simp only [RAV] at hx
  obtain ⟨⟨b,_,_,_,hv⟩,_⟩:=hx o ho
  rw [hv];rfl
 | mp t =>
  simp only [oneB] at h1
  obtain ⟨o,ho,hr⟩:=h.live h1
  simp only [RAV] at hx
  obtain ⟨hv,hxs⟩:=hx o ho
  rw [hv]
  cases o with
  | mp k e m=>simp only [ROb,RIV] at hr;obtain ⟨b,es,clock,hv',_⟩:=hr;rw [hv'];rfl
  | gone k=>simp only [ROb] at hr;exact hr.2
  | row e xs=>simp [Ob.kind] at hxs
  | frz e xs=>simp [Ob.kind] at hxs
  | box cs=>simp [Ob.kind] at hxs
  | bld s=>simp [Ob.kind] at hxs
 | vw e t lo hi =>
  simp only [oneB] at h1
  obtain ⟨o,ho,hr⟩:=h.live h1
  simp only [RAV] at hx
  obtain ⟨⟨b,_,_,_,_,_,hv,_⟩,_⟩:=hx o ho
  rw [hv];rfl
 | cel cs off=>simp only [RAV] at hx;obtain ⟨b,o,c,ty,fz,rfl,_⟩:=hx;rfl
 | fn f cs=>simp only [RAV] at hx;obtain ⟨vs,rfl,_⟩:=hx;rfl
 | _=>simp [oneB] at h1
theorem Rel.ones (h:Rel T w0 F0 X γ φ av w tmps S):∀ {xs:List (AV A)} {vs:List Value},RAVs T w av S.look γ xs vs→xs.all (oneB S.look) = true→∀ v∈vs,v.oneCell' = true
 | [],vs,hx,h1,v,hv=>by simp only [RAVs] at hx;subst hx;simp at hv
 | x::xs,vs,hx,h1,v,hv=>by
  simp only [RAVs] at hx
  obtain ⟨u,us,rfl,hu,hus⟩:=hx
  simp only [List.all_cons,Bool.and_eq_true] at h1
  rcases List.mem_cons.1 hv with rfl | hv
  ·exact h.one hu h1.1
  ·exact h.ones hus h1.2 v hv
theorem Rel.cells (h:Rel T w0 F0 X γ φ av w tmps S) {x:AV A} {v:Value} (hx:RAV T w av S.look γ x v) (h1:ybsy S.look x = true):RAVs T w av S.look γ x.cells v.cells.toList:=by
 have hone:oneB S.look x = true→x.cells = [x]→RAVs T w av S.look γ x.cells v.cells.toList:=by
  intro ho hc
  rw [hc,yAKy (h.one hx ho)]
  exact ⟨v,[],rfl,hx,by simp [RAVs]⟩
 cases x with
 | agg cs=>simp only [RAV] at hx;obtain ⟨vs,rfl,hs⟩:=hx;exact hs
 | _=>exact hone h1 rfl
theorem ylFy {t:TypeId} {d:TypeDesc} (h:P.underlying t = some d):∃ i,P.info? t = some i∧P.cellsOf t = i.size:=by
 unfold Program.underlying at h
 cases hi:P.info? t with
 | none=>simp [hi] at h
 | some i=>exact ⟨i,rfl,by simp [Program.cellsOf,hi]⟩
def aggD:TypeDesc→Bool
 | .struct _ | .array _ _=>true
 | _=>false
theorem yiJy {t:TypeId} {d:TypeDesc} (h:P.underlying t = some d) (w:World):(isAgg t).run P w = .ok (aggD d) w:=by
 unfold isAgg
 simp only [Sem.run_bind,run_underlying h,Result.andThen_ok]
 cases d <;> rfl
theorem ya7y {t:TypeId} {i:TypeInfo} (h:P.info? t = some i) (w:World):(sizeOf t).run P w = .ok i.size w:=by
 simp [sizeOf,typeInfo,h]
def yCuy {α:Type} (rel:α→Value→Prop) (p:List α×Bool) (v:Value):Prop :=
 match p.2 with
 | true=>∃ vs,v = .agg vs∧vs.size = p.1.length∧∀ (j:Nat) (x:α),p.1[j]? = some x→∃ u,vs[j]? = some u∧rel x u
 | false=>∃ x,p.1 = [x]∧rel x v
theorem ysFy {α:Type} {t:TypeId} {cs:List α} {off:Nat} {p:List α×Bool} {d:TypeDesc} (hu:P.underlying t = some d) (hp:partL P t cs off = some p) :
  (aggD d = true∧off + P.cellsOf t≤cs.length∧p = ((cs.drop off).take (P.cellsOf t),true)) ∨ (aggD d = false∧∃ x,cs[off]? = some x∧p = ([x],false)):=by
 unfold partL at hp
 rw [hu] at hp
 cases d <;> dsimp only at hp <;> first
  | (split at hp <;> first | (rename_i hle;exact .inl ⟨rfl,hle,(Option.some.inj hp).symm⟩) | cases hp)
  | (cases hx:cs[off]? with
    | none=>simp [hx] at hp
    | some x=>simp [hx] at hp;exact .inr ⟨rfl,x,rfl,hp.symm⟩)
theorem yeMy {α:Type} {t:TypeId} {cs:List α} {off:Nat} {p:List α×Bool} (hp:partL P t cs off = some p) {b o:Nat} {c:Array Value} {ty:TypeId} {fz:Nat×Nat}
  (hc:w.heap[b]? = some (.cells c ty fz)) (rel:α→Value→Prop) (hr:∀ (j:Nat) (x:α),cs[j]? = some x→∃ u,c[o + j]? = some u∧rel x u) :
  ∃ v,(loadVar t ⟨b,o + off,none⟩).run P w = .ok v w∧yCuy rel p v:=by
 cases hu:P.underlying t with
 | none=>simp [partL,hu] at hp
 | some d =>
  obtain ⟨i,hi,hsz⟩:=ylFy hu
  rcases ysFy hu hp with ⟨hd,hle,rfl⟩ | ⟨hd,x,hx,rfl⟩
  ·have hex:∀ j,j < P.cellsOf t→∃ u,c[o + off + j]? = some u∧∀ x,cs[off + j]? = some x→rel x u:=by
    intro j hj
    have hlt:off + j < cs.length:=by omega
    obtain ⟨u,hu,hr'⟩:=hr (off + j) cs[off + j] (by simp [hlt])
    exact ⟨u,by rw [Nat.add_assoc];exact hu,fun x hx=>by simp [hlt] at hx;subst hx;exact hr'⟩
   let f:Nat→Value:=fun j=>(c[o + off + j]?).getD undef
   have hrun:=run_loadCells (P:=P) w ⟨b,o + off,none⟩ (P.cellsOf t) f (fun j hj=>by
    rw [addr_add,ynby hc]
    obtain ⟨u,hu,_⟩:=hex j hj
    simp [f,hu])
   refine ⟨.agg ((List.range (P.cellsOf t)).map f).toArray,?_,?_⟩
   ·unfold loadVar
    simp only [Sem.run_bind,yiJy hu,Result.andThen_ok,hd,if_true,ya7y hi,← hsz,hrun,Sem.run_pure]
   ·refine ⟨_,rfl,by simp;omega,fun j x hx=>?_⟩
    have hj:j < P.cellsOf t:=by
     rcases Nat.lt_or_ge j (P.cellsOf t) with h | h
     ·exact h
     ·have hx':((cs.drop off).take (P.cellsOf t))[j]? = some x:=hx
      rw [List.getElem?_eq_none (by simp;omega)] at hx';cases hx'
    simp only [List.getElem?_take_of_lt hj,List.getElem?_drop] at hx
    obtain ⟨u,hu,hr'⟩:=hex j hj
    exact ⟨u,by simp [hj,f,hu],hr' x hx⟩
  ·obtain ⟨u,hu',hr'⟩:=hr off x hx
   refine ⟨u,?_,x,rfl,hr'⟩
   unfold loadVar
   simp only [Sem.run_bind,yiJy hu,Result.andThen_ok,hd,Bool.false_eq_true,if_false,run_load,ynby hc,hu']
theorem RAVs.of_cells {look:Nat→Option (Ob A)}:∀ {l:List (AV A)} {vs:List Value},vs.length = l.length→(∀ (j:Nat) (x:AV A),l[j]? = some x→∃ u,vs[j]? = some u∧RAV T w av look γ x u)→RAVs T w av look γ l vs
 | [],vs,hl,h=>by simp only [RAVs];exact List.eq_nil_of_length_eq_zero hl
 | x::l,[],hl,h=>by simp at hl
 | x::l,v::vs,hl,h=>by
  simp only [RAVs]
  obtain ⟨u,hu,hr⟩:=h 0 x rfl
  simp at hu
  subst hu
  exact ⟨v,vs,rfl,hr,RAVs.of_cells (by simpa using hl) (fun j x hx=>h (j + 1) x (by simpa using hx))⟩
theorem RAVs.at {look:Nat→Option (Ob A)} {l:List (AV A)} {vs:List Value} (h:RAVs T w av look γ l vs) (j:Nat) (x:AV A) (hx:l[j]? = some x):∃ u,vs[j]? = some u∧RAV T w av look γ x u:=h.get hx
theorem yoHy {t:TypeId} {cs:List (AV A)} {off:Nat} {v:AV A} (hp:ybUy P t cs off = some v) {look:Nat→Option (Ob A)} {b:Nat} {c:Array Value} {ty:TypeId} {fz:Nat×Nat}
  (hc:w.heap[b]? = some (.cells c ty fz)) (hr:RAVs T w av look γ cs c.toList):∃ u,(loadVar t ⟨b,off,none⟩).run P w = .ok u w∧RAV T w av look γ v u:=by
 unfold ybUy at hp
 cases hq:partL P t cs off with
 | none=>simp [hq] at hp
 | some p =>
  simp [hq] at hp
  obtain ⟨u,hu,hm⟩:=yeMy (o:=0) hq hc (RAV T w av look γ) (fun j x hx=>by
   obtain ⟨u,hu,hr'⟩:=hr.at j x hx
   exact ⟨u,by simpa using hu,hr'⟩)
  rw [Nat.zero_add] at hu
  refine ⟨u,hu,?_⟩
  obtain ⟨l,b⟩:=p
  cases b with
  | true =>
   obtain ⟨vs,rfl,hl,hx⟩:=hm
   subst hp
   simp only [packL,RAV]
   exact ⟨vs,rfl,RAVs.of_cells (by simpa using hl) (fun j x hj=>by simpa using hx j x hj)⟩
  | false =>
   obtain ⟨x,rfl,hx⟩:=hm
   subst hp
   simpa [packL] using hx
theorem yk7y {t:TypeId} {cs:List (D A)} {off:Nat} {v:AV A} (hp:partD P t cs off = some v) {look:Nat→Option (Ob A)} {b o:Nat} {c:Array Value} {ty:TypeId} {fz:Nat×Nat}
  (hc:w.heap[b]? = some (.cells c ty fz)) (hr:∀ (j:Nat) (d:D A),cs[j]? = some d→∃ u,c[o + j]? = some u∧DR T w av d u):∃ u,(loadVar t ⟨b,o + off,none⟩).run P w = .ok u w∧RAV T w av look γ v u:=by
 unfold partD at hp
 cases hq:partL P t cs off with
 | none=>simp [hq] at hp
 | some p =>
  simp [hq] at hp
  obtain ⟨u,hu,hm⟩:=yeMy (o:=o) hq hc (DR T w av) hr
  refine ⟨u,hu,?_⟩
  obtain ⟨l,b⟩:=p
  cases b with
  | true =>
   obtain ⟨vs,rfl,hl,hx⟩:=hm
   subst hp
   simp only [packL,RAV]
   refine ⟨vs,rfl,RAVs.of_cells (by simpa using hl) (fun j x hj=>?_)⟩
   simp at hj
   obtain ⟨d,hd,rfl⟩:=hj
   obtain ⟨u,hu,hr'⟩:=hx j d hd
   exact ⟨u,by simpa using hu,by simpa [RAV] using hr'⟩
  | false =>
   obtain ⟨x,rfl,hx⟩:=hm
   subst hp
   simpa [packL,RAV] using hx
theorem Rel.elem (h:Rel T w0 F0 X γ φ av w tmps S) {t e:Nat} {xs:List (A e)} (ho:S.look t = some (.row e xs) ∨ S.look t = some (.frz e xs)) {b n cap:Nat} (hb:γ t = .slice (some ⟨b,0,none⟩) n cap)
  {i:Nat} {x:A e} (hx:xs[i]? = some x):∃ c ty fz,w.heap[b]? = some (.cells c ty fz)∧∀ (j:Nat) (d:D A),(T.enc e x)[j]? = some d→∃ u,c[i * T.size e + j]? = some u∧DR T w av d u:=by
 have hne:xs≠[]:=by rintro rfl;simp at hx
 rcases ho with ho | ho
 ·have hr:=h.ob t _ ho
  simp only [ROb,RIV] at hr
  obtain ⟨ob,hφ,hs,hrow⟩:=hr
  cases ob with
  | none =>
   simp only [OwnSl] at hs
   exact absurd (List.eq_nil_of_length_eq_zero hs.1) hne
  | some b' =>
   simp only [OwnSl] at hs
   obtain ⟨cap',c,ty,hv,_,hc,_⟩:=hs
   have hbb:b' = b:=by rw [hb] at hv;simp only [Value.slice.injEq,Option.some.injEq,Addr.mk.injEq] at hv;exact hv.1.1.symm
   subst hbb
   obtain ⟨c',ty',hc',hrow'⟩:=hrow b' rfl
   refine ⟨c',ty',_,hc',fun j d hj=>?_⟩
   obtain ⟨u,hu,hd⟩:=hrow' i x hx j d hj
   exact ⟨u,by simpa using hu,hd⟩
 ·have hr:=h.ob t _ ho
  simp only [ROb] at hr
  obtain ⟨_,hd,hbase⟩:=hr
  obtain ⟨a,cap',hv,_,hrow⟩:=hd.sl
  obtain ⟨b',o,c,ty,fz,ha,hav,hc,hrow'⟩:=hrow hne
  rw [hb,ha] at hv
  simp only [Value.slice.injEq,Option.some.injEq,Addr.mk.injEq] at hv
  obtain ⟨⟨rfl,rfl,_⟩,_,_⟩:=hv
  refine ⟨c,ty,fz,hc,fun j d hj=>?_⟩
  obtain ⟨u,hu,hd⟩:=hrow' i x hx j d hj
  exact ⟨u,by simpa using hu,hd⟩
theorem yHFy (E:Env A) (h:Rel E.T w0 F0 X γ φ av w tmps S) {o:Oper} {t:TypeId} {a:Operand} {ds:List Deferred} (ho:o.op = .load t a)
  (hk:opK E S.look (yafy S.fr) k o = some res):Did E.T w0 F0 X tmps S k res ((execOp (Act.eval ⟨tmps,ds⟩) o).run E.P w):=by
 have hx:=h.eval ds a
 unfold opK at hk
 simp only [ho] at hk
 unfold execOp
 simp only [ho,Instr.loadAt,Sem.run_bind]
 generalize yafy S.fr a = x at hk hx
 generalize Act.eval ⟨tmps,ds⟩ a = u at hx
 cases x <;> simp only at hk <;> try (cases hk;done)
 case ptr tg off =>
  cases hl:S.look tg with
  | none=>simp [hl] at hk
  | some ob =>
   rw [hl] at hk
   cases ob <;> simp only at hk <;> try (cases hk;done)
   rename_i cs
   cases hp:ybUy E.P t cs off with
   | none=>simp [hp] at hk
   | some v =>
    simp [hp] at hk
    simp only [RAV] at hx
    obtain ⟨⟨b,hg,rfl⟩,_⟩:=hx _ hl
    have hr:=h.ob tg _ hl
    simp only [ROb] at hr
    obtain ⟨b',c,ty,hg',_,hc,hcs⟩:=hr
    have hbb:b' = b:=by rw [hg] at hg';simpa using hg'.symm
    subst hbb
    obtain ⟨u,hu,hru⟩:=yoHy hp hc hcs
    exact yaty h hk (by simp [Instr.sureAddr,hu]) hru
 case elp e tg i off =>
  simp only [RAV] at hx
  have key:∀ (e':Nat) (xs:List (A e')),(S.look tg = some (.row e' xs) ∨ S.look tg = some (.frz e' xs)) →
    (if e' = e then match xs[i]? with | some x=>(partD E.P t (E.T.enc e' x) off).bind fun v=>k v [] [tg] | none=>none else none) = some res →
    (∃ b n cap,γ tg = .slice (some ⟨b,0,none⟩) n cap∧u = .pointer (some ⟨b,i * E.T.size e + off,none⟩)) →
    ∃ v u',k v [] [tg] = some res∧(∃ a,u = .pointer (some a)∧(loadVar t a).run E.P w = .ok u' w)∧RAV E.T w av S.look γ v u':=by
   intro e' xs hlk hk' hv
   split at hk'
   ·rename_i he
    subst he
    cases hxi:xs[i]? with
    | none=>simp [hxi] at hk'
    | some x =>
     rw [hxi] at hk'
     simp only at hk'
     cases hp:partD E.P t (E.T.enc e' x) off with
     | none=>simp [hp] at hk'
     | some v =>
      simp [hp] at hk'
      obtain ⟨b,n,cap,hb,rfl⟩:=hv
      obtain ⟨c,ty,fz,hc,hr⟩:=h.elem hlk hb hxi
      obtain ⟨u,hu,hru⟩:=yk7y (look:=S.look) (γ:=γ) hp hc hr
      exact ⟨v,u,hk',⟨_,rfl,hu⟩,hru⟩
   ·cases hk'
  cases hl:S.look tg with
  | none=>simp [hl] at hk
  | some ob =>
   rw [hl] at hk
   have hv:=(hx ob hl).1
   cases ob <;> simp only at hk <;> try (cases hk;done)
   all_goals
    obtain ⟨v,u',hk',⟨ad,rfl,hu⟩,hru⟩:=key _ _ (by first | exact .inl hl | exact .inr hl) hk hv
    exact yaty h hk' (by simp [Instr.sureAddr,hu]) hru
 case cel cs off =>
  cases hp:partD E.P t cs off with
  | none=>simp [hp] at hk
  | some v =>
   simp [hp] at hk
   simp only [RAV] at hx
   obtain ⟨b,o',c,ty,fz,rfl,hav,hc,hr⟩:=hx
   obtain ⟨u,hu,hru⟩:=yk7y (look:=S.look) (γ:=γ) hp hc hr
   exact yaty h hk (by simp [Instr.sureAddr,hu]) hru
theorem yqQy {u:Nat}:∀ {l:List (AV A)} {x:AV A},x∈l→occAV u x = true→yady u l = true
 | y::l,x,hm,hx=>by
  rcases List.mem_cons.1 hm with rfl | hm
  ·simp [yady,hx]
  ·simp [yady,yqQy hm hx]
theorem yqWy (u:Nat) (v:Value):occAV u (const1 v:AV A) = false:=by
 unfold const1;split <;> rfl
theorem yoCy (u:Nat) (l:List Value):yady u (l.map const1:List (AV A)) = false:=by
 induction l with
 | nil=>rfl
 | cons x xs ih=>simp [yady,yqWy,ih]
theorem ylsy {u:Nat} {x:Operand} (h:occAV u (yafy S.fr x) = true):occSt u S = true:=by
 cases x with
 | tmp t =>
  simp only [yafy] at h
  cases hs:S.fr[t]? with
  | none=>simp [hs,occAV] at h
  | some y=>simp [hs] at h;simp [occSt,yqQy (List.mem_of_getElem? hs) h]
 | const v =>
  simp only [yafy,constAV] at h
  split at h
  ·simp [occAV,yoCy] at h
  ·rw [yqWy] at h;cases h
 | global g=>simp [yafy,occAV] at h
 | func f=>simp [yafy,occAV,yady] at h
theorem ysry {u:Nat} {x:AV A} (h:yady u x.cells = true):occAV u x = true:=by
 cases x <;> simp_all [AV.cells,yady,occAV]
theorem yhgy {u:Nat}:∀ {l m:List (AV A)},yady u (l++m) = (yady u l || yady u m)
 | [],m=>by simp [yady]
 | x::l,m=>by simp [yady,yhgy (l:=l) (m:=m),Bool.or_assoc]
theorem yoGy {u n:Nat}:∀ {l:List (AV A)} (n:Nat),yady u (l.take n) = true→yady u l = true
 | [],n,h=>by simp [yady] at h
 | x::l,0,h=>by simp [yady] at h
 | x::l,n + 1,h=>by
  simp only [List.take_succ_cons,yady,Bool.or_eq_true] at h ⊢
  exact h.imp id (yoGy (u:=u) (n:=n) n)
theorem yoyy {u:Nat}:∀ {l:List (AV A)} (n:Nat),yady u (l.drop n) = true→yady u l = true
 | [],n,h=>by simp [yady] at h
 | x::l,0,h=>h
 | x::l,n + 1,h=>by
  simp only [List.drop_succ_cons] at h
  simp [yady,yoyy n h]
theorem yq8y {u off:Nat} {l m:List (AV A)} (h:yady u (splice l off m) = true):yady u l = true ∨ yady u m = true:=by
 simp only [splice,yhgy,Bool.or_eq_true] at h
 rcases h with h | h | h
 ·exact .inl (yoGy (u:=u) (n:=off) off h)
 ·exact .inr h
 ·exact .inl (yoyy _ h)
theorem setRow_other (w:World) (g b:Nat) (c:Array Value) (h:b≠g):(w.setRow g c).heap[b]? = w.heap[b]?:=by
 unfold World.setRow
 simp [Array.getElem?_modify,Ne.symm h]
theorem setRow_size (w:World) (g:Nat) (c:Array Value):(w.setRow g c).heap.size = w.heap.size:=by simp [World.setRow]
theorem ye0y (l:List (Option (Ob A))) (t:Nat) (o:Option (Ob A)):(l.set t none).set t o = l.set t o:=by simp
theorem Rel.run_store (h:Rel T w0 F0 X γ φ av w tmps S) {t:TypeId} {x:AV A} {v:Value} (hx:RAV T w av S.look γ x v) (hb:ybsy S.look x = true) (h1:x.cells.all (oneB S.look) = true)
  (hn:x.cells.length = P.cellsOf t) (hi:(P.info? t).isSome = true) {b off:Nat} {c:Array Value} {ty:TypeId} (hc:w.heap[b]? = some (.cells c ty (0,0))) (hle:off + x.cells.length≤c.size) :
  (storeVar t ⟨b,off,none⟩ v).run P w = .ok () (w.setRow b (splice c.toList off v.cells.toList).toArray)∧RAVs T w av S.look γ x.cells v.cells.toList:=by
 have hcs:=h.cells hx hb
 have hlen:=hcs.len
 obtain ⟨i,hi'⟩:=Option.isSome_iff_exists.1 hi
 have hsz:P.cellsOf t = i.size:=by simp [Program.cellsOf,hi']
 have hrun:=run_storeCells_at P b off ty v.cells.toList 0 c w hc (by simp;simp at hlen;omega) (h.ones hcs h1)
 refine ⟨?_,hcs⟩
 unfold storeVar
 have:v.cells.size = i.size:=by rw [← hsz,← hn,← hlen];simp
 simp only [Sem.run_bind,ya7y hi',Result.andThen_ok,this,ne_eq,not_true_eq_false,if_false,Sem.run_pure]
 rw [hrun]
 simp [splice]
theorem ybey (S:St A) (u u':Upd A):S.upd (u++u') = (S.upd u).upd u':=by
 induction u generalizing S with
 | nil=>rfl
 | cons x xs ih=>obtain ⟨t,o⟩:=x;simp only [List.cons_append,St.upd,ih]
theorem yf1y (S:St A) (u:Upd A):(S.upd u).fr = S.fr:=by
 induction u generalizing S with
 | nil=>rfl
 | cons x xs ih=>obtain ⟨t,o⟩:=x;simp only [St.upd,ih]
theorem yb4y (S:St A) (u:Upd A):(S.upd u).st.length = S.st.length:=by
 induction u generalizing S with
 | nil=>rfl
 | cons x xs ih=>obtain ⟨t,o⟩:=x;simp only [St.upd,ih,List.length_set]
theorem ywmy (S:St A):∀ (u:Upd A),(∀ x∈u,x.1 < S.st.length)→(S.upd u).look = lookU S.look u
 | [],_=>rfl
 | (t,o)::r,h=>by
  have ht:t < S.st.length:=h (t,o) (by simp)
  have hl:St.look { S with st:=S.st.set t o } = fun s=>if s = t then o else S.look s:=by
   funext s
   rw [yayy]
   by_cases hs:s = t <;> simp [hs,ht]
  simp only [St.upd,lookU]
  rw [ywmy _ r (fun x hx=>by simp only [List.length_set];exact h x (by simp [hx])),hl]
theorem ymCy (h:Rel T w0 F0 X γ φ av w tmps S) {x:AV A} {v:Value} (hx:RAV T w av S.look γ x v) {d:D A} {u:Upd A} {ts:List Nat} (ht:toD S.look x = some (d,u,ts)) :
  ∃ φ' av',Rel T w0 F0 X γ φ' av' w tmps (S.upd u)∧DR T w av' d v∧(∀ b,¬ av b→¬ av' b)∧(∀ x∈u,x.1 < S.st.length)∧(∀ t o,(S.upd u).look t = some o→∃ o',S.look t = some o'∧o.kind = o'.kind) ∧
   (∀ t,t ∉ ts→(S.upd u).look t = S.look t∧φ' t = φ t)∧(∀ t,((S.upd u).look t).isSome = (S.look t).isSome):=by
 cases x <;> simp only [toD] at ht <;> try (cases ht;done)
 case d y =>
  simp only [Option.some.injEq,Prod.mk.injEq] at ht
  obtain ⟨rfl,rfl,rfl⟩:=ht
  exact ⟨φ,av,h,hx,fun b hb=>hb,by simp,fun t o ho=>⟨o,ho,rfl⟩,fun t _=>⟨rfl,rfl⟩,fun t=>rfl⟩
 case own e t =>
  cases hl:S.look t with
  | none=>simp [hl] at ht
  | some ob =>
   rw [hl] at ht
   simp only [RAV] at hx
   obtain ⟨hv,hx2⟩:=hx ob hl
   clear hx2
   cases ob <;> simp only at ht <;> try (cases ht;done)
   case row =>
    rename_i e' xs
    simp only [Option.some.injEq,Prod.mk.injEq] at ht
    obtain ⟨rfl,rfl,rfl⟩:=ht
    have hlt:=ybgy hl
    have hlook:∀ u,St.look (S.upd [(t,some (.frz e' xs))]) u = if u = t then some (.frz e' xs) else S.look u:=by
     intro u;show St.look { S with st:=S.st.set t (some (.frz e' xs)) } u = _
     rw [yayy];by_cases hu:u = t <;> simp [hu,hlt]
    obtain ⟨φ',av',hR,hD,hsub,hnot,hφ,_⟩:=h.freeze hl
    refine ⟨φ',av',hR,hv ▸ hD,hnot,?_,?_,?_,?_⟩
    ·intro x hx;simp at hx;subst hx;exact hlt
    ·intro u o ho
     rw [hlook] at ho
     by_cases hu:u = t
     ·rw [if_pos hu] at ho;cases ho;exact ⟨.row e' xs,hu ▸ hl,rfl⟩
     ·rw [if_neg hu] at ho;exact ⟨o,ho,rfl⟩
    ·intro u hu
     have hut:u≠t:=fun e=>hu (by simp [e])
     exact ⟨by rw [hlook,if_neg hut],hφ u hut⟩
    ·intro u
     rw [hlook]
     by_cases hu:u = t
     ·simp [hu,hl]
     ·simp [hu]
   case frz =>
    rename_i e' xs
    simp only [Option.some.injEq,Prod.mk.injEq] at ht
    obtain ⟨rfl,rfl,rfl⟩:=ht
    have hr:=h.ob t _ hl
    simp only [ROb] at hr
    exact ⟨φ,av,h,by rw [hv];exact hr.2.1,fun b hb=>hb,by simp,fun t o ho=>⟨o,ho,rfl⟩,fun t _=>⟨rfl,rfl⟩,fun t=>rfl⟩
theorem ykPy:∀ {xs:List (AV A)} {vs:List Value} {ds:List (D A)} {u:Upd A} {ts:List Nat} {S:St A} {φ:Nat→List Nat} {av:Nat→Prop} (h:Rel T w0 F0 X γ φ av w tmps S),
  RAVs T w av S.look γ xs vs→toDs S.look xs = some (ds,u,ts) →
  ∃ φ' av',Rel T w0 F0 X γ φ' av' w tmps (S.upd u)∧ds.length = vs.length∧(∀ (j:Nat) (d:D A),ds[j]? = some d→∃ v,vs[j]? = some v∧DR T w av' d v)∧(∀ b,¬ av b→¬ av' b) ∧
   (∀ x∈u,x.1 < S.st.length)∧(∀ t o,(S.upd u).look t = some o→∃ o',S.look t = some o'∧o.kind = o'.kind) ∧
   (∀ t,t ∉ ts→(S.upd u).look t = S.look t∧φ' t = φ t)∧(∀ t,((S.upd u).look t).isSome = (S.look t).isSome)
 | [],vs,ds,u,ts,S,φ,av,h,hx,ht=>by
  simp only [toDs,Option.some.injEq,Prod.mk.injEq] at ht
  obtain ⟨rfl,rfl,rfl⟩:=ht
  simp only [RAVs] at hx
  subst hx
  exact ⟨φ,av,h,rfl,by simp,fun b hb=>hb,by simp,fun t o ho=>⟨o,ho,rfl⟩,fun t _=>⟨rfl,rfl⟩,fun t=>rfl⟩
 | x::xs,vs,ds,u,ts,S,φ,av,h,hx,ht=>by
  simp only [RAVs] at hx
  obtain ⟨v,vs',rfl,hv,hvs⟩:=hx
  simp only [toDs] at ht
  cases h1:toD S.look x with
  | none=>simp [h1] at ht
  | some p =>
   obtain ⟨d,u1,t1⟩:=p
   simp only [h1,Option.bind_some] at ht
   obtain ⟨φ1,av1,hR1,hd1,hn1,hl1,hk1,ho1,hs1⟩:=ymCy h hv h1
   have hlook:=ywmy S u1 hl1
   cases h2:toDs (lookU S.look u1) xs with
   | none=>simp [h2] at ht
   | some q =>
    obtain ⟨ds',u2,t2⟩:=q
    simp only [h2,Option.bind_some,Option.some.injEq,Prod.mk.injEq] at ht
    obtain ⟨rfl,rfl,rfl⟩:=ht
    have hvs':RAVs T w av1 (S.upd u1).look γ xs vs':=RAVs.mono (fun b o hb ho=>⟨ho,hn1 b hb⟩) _ _ (fun t _ o' ho'=>by
     obtain ⟨o,ho,hk⟩:=hk1 t o' ho'
     exact ⟨o,ho,rfl,hk⟩) hvs
    rw [← hlook] at h2
    obtain ⟨φ2,av2,hR2,hlen,hd2,hn2,hl2,hk2,ho2,hs2⟩:=ykPy hR1 hvs' h2
    refine ⟨φ2,av2,by rw [ybey];exact hR2,by simp [hlen],?_,fun b hb=>hn2 b (hn1 b hb),?_,?_,?_,?_⟩
    ·intro j d' hj
     cases j with
     | zero =>
      simp at hj
      subst hj
      exact ⟨v,rfl,hd1.mono (fun b o hb ho=>⟨ho,hn2 b hb⟩)⟩
     | succ j=>simpa using hd2 j d' (by simpa using hj)
    ·intro x hx
     rcases List.mem_append.1 hx with hx | hx
     ·exact hl1 x hx
     ·have:=hl2 x hx;rwa [yb4y] at this
    ·intro t o ho
     rw [ybey] at ho
     obtain ⟨o1,ho1',hk1'⟩:=hk2 t o ho
     obtain ⟨o2,ho2',hk2'⟩:=hk1 t o1 ho1'
     exact ⟨o2,ho2',hk1'.trans hk2'⟩
    ·intro t ht
     simp only [List.mem_append,not_or] at ht
     obtain ⟨a1,a2⟩:=ho1 t ht.1
     obtain ⟨b1,b2⟩:=ho2 t ht.2
     rw [ybey]
     exact ⟨b1.trans a1,b2.trans a2⟩
    ·intro t
     rw [ybey,hs2,hs1]
theorem yhUy (S:St A) (t:Nat) (o:Option (Ob A)):S.upd [(t,o)] = { S with st:=S.st.set t o }:=rfl
theorem yuay (h:Rel T w0 F0 X γ φ av w tmps S) {t:TypeId} {tg off:Nat} {cs:List (AV A)} {x:AV A} {v ad:Value} (hx:RAV T w av S.look γ x v) (hocc:∀ u,occAV u x = true→occSt u S = true)
  (hn:x.cells.length = P.cellsOf t) (h1:x.cells.all (oneB S.look) = true) (hi:(P.info? t).isSome = true) (hl:S.look tg = some (.box cs)) (hle:off + x.cells.length≤cs.length)
  (ha:RAV T w av S.look γ (.ptr tg off) ad) :
  ∃ w' γ' φ',(Instr.storeAt t ad v).run P w = .ok () w'∧Rel T w0 F0 X γ' φ' av w' tmps (S.upd [(tg,some (.box (splice cs off x.cells)))]):=by
 simp only [RAV] at ha
 obtain ⟨⟨b,hg,rfl⟩,_⟩:=ha _ hl
 have hr:=h.ob tg _ hl
 simp only [ROb] at hr
 obtain ⟨b',c,ty,hg',hφ,hc,hcs⟩:=hr
 have hbb:b' = b:=by rw [hg] at hg';simpa using hg'.symm
 subst hbb
 have hb:ybsy S.look x = true:=by
  cases x <;> first | rfl | (simp only [AV.cells,List.all_cons,List.all_nil,Bool.and_true] at h1;exact h1)
 have hsz:c.size = cs.length:=by have:=hcs.len;simpa using this
 obtain ⟨hrun,hxs⟩:=h.run_store hx hb h1 hn hi hc (by rw [hsz];exact hle)
 obtain ⟨γ',φ',hR,hγ,hφ',_⟩:=h.turn (w':=w.setRow b' (splice c.toList off v.cells.toList).toArray) hl (ybgy hl) (fun e=>absurd rfl e) (.box (splice cs off x.cells)) (γ tg) (fun _=>⟨rfl,rfl⟩)
  (fun b hb=>Go.setRow_other w b' b _ (fun e=>hb (by rw [hφ];simp [e]))) (Go.setRow_size _ _ _) rfl ⟨rfl,fun _=>Nat.le_refl _⟩ rfl
  (fun γ' φ' hp hγ' hφ'' hγn hcomp=>by
   simp only [ROb]
   refine ⟨b',_,ty,by rw [hγ'];exact hg,by rw [hφ''];exact hφ,setRow_heap _ _ _ _ _ _ hc,?_⟩
   refine RAVs.mono hp _ _ (fun u hu=>hcomp u ?_) (hcs.splice off hxs)
   rcases yq8y hu with hu | hu
   ·exact yiEy hl hu
   ·exact hocc u (ysry hu))
 rw [ye0y] at hR
 exact ⟨_,γ',φ',by simp [Instr.storeAt,Instr.sureAddr,hrun],hR⟩
theorem ydXy {α:Type} (l:List α) (off:Nat) (new:List α) (hle:off≤l.length) (p:Nat) :
  (splice l off new)[p]? = if p < off then l[p]? else if p < off + new.length then new[p - off]? else l[p]?:=by
 unfold splice
 have hm:min off l.length = off:=Nat.min_eq_left hle
 rw [List.getElem?_append]
 simp only [List.length_take,hm]
 split
 ·rename_i hp;exact List.getElem?_take_of_lt hp
 ·rename_i hp
  rw [List.getElem?_append]
  split
  ·rename_i h2;rw [if_pos (by omega)]
  ·rename_i h2
   rw [if_neg (by omega),List.getElem?_drop]
   congr 1
   omega
theorem ykyy {α:Type} (l:List α) (off:Nat) (new:List α) (hle:off + new.length≤l.length):(splice l off new).length = l.length:=by
 unfold splice
 simp
 omega
theorem Row.set {e:Nat} {xs:List (A e)} {c:Array Value} (hr:Row T w av c 0 e xs) (hok:TyOk P T) {i:Nat} {x x':A e} (hx:xs[i]? = some x) {off:Nat} {ds:List (D A)} {vs:List Value}
  (hlen:ds.length = vs.length) (hds:∀ (j:Nat) (d:D A),ds[j]? = some d→∃ v,vs[j]? = some v∧DR T w' av d v) (hp:Pres w av w' av) (hoff:off + vs.length≤T.size e)
  (hdec:T.dec e (Am.splice (T.enc e x) off ds) = some x') (hc:i * T.size e + off + vs.length≤c.size) :
  Row T w' av (Am.splice c.toList (i * T.size e + off) vs).toArray 0 e (xs.set i x'):=by
 intro j y hy m d hd
 rw [Nat.zero_add]
 have hget:∀ p,(Am.splice c.toList (i * T.size e + off) vs).toArray[p]? = if p < i * T.size e + off then c[p]? else if p < i * T.size e + off + vs.length then vs[p - (i * T.size e + off)]? else c[p]?:=by
  intro p
  have:=ydXy c.toList (i * T.size e + off) vs (by simp;omega) p
  simpa using this
 rw [hget]
 by_cases hji:j = i
 ·subst hji
  have hlt:j < xs.length:=by
   rcases Nat.lt_or_ge j xs.length with h | h
   ·exact h
   ·rw [List.getElem?_eq_none h] at hx;cases hx
  simp [hlt] at hy
  subst hy
  obtain ⟨hl,hrep⟩:=hok.dec e _ _ hdec
  have hm:m < T.size e:=by
   rw [← hok.len e x']
   rcases Nat.lt_or_ge m (T.enc e x').length with h | h
   ·exact h
   ·rw [List.getElem?_eq_none h] at hd;cases hd
  have hel:=hok.len e x
  have hoff':off≤(T.enc e x).length:=by omega
  have hsp:=ydXy (T.enc e x) off ds hoff' m
  have hex:∃ d0,(Am.splice (T.enc e x) off ds)[m]? = some d0:=by
   rw [← Option.isSome_iff_exists]
   simp
   rw [hl];exact hm
  obtain ⟨d0,hd0⟩:=hex
  obtain ⟨d',hd',himp⟩:=hrep w' av m d0 hd0
  rw [hd] at hd'
  cases hd'
  rw [hsp] at hd0
  by_cases h1:m < off
  ·rw [if_pos h1] at hd0
   rw [if_pos (by omega)]
   obtain ⟨u,hu,hdr⟩:=hr j x hx m d0 hd0
   exact ⟨u,by simpa using hu,himp u (hdr.mono hp)⟩
  ·rw [if_neg h1] at hd0
   rw [if_neg (by omega)]
   by_cases h2:m < off + ds.length
   ·rw [if_pos h2] at hd0
    rw [if_pos (by omega)]
    obtain ⟨v,hv,hdr⟩:=hds _ _ hd0
    exact ⟨v,by rw [show j * T.size e + m - (j * T.size e + off) = m - off from by omega];exact hv,himp v hdr⟩
   ·rw [if_neg h2] at hd0
    rw [if_neg (by omega)]
    obtain ⟨u,hu,hdr⟩:=hr j x hx m d0 hd0
    exact ⟨u,by simpa using hu,himp u (hdr.mono hp)⟩
 ·have hy':xs[j]? = some y:=by rw [List.getElem?_set_ne (Ne.symm hji)] at hy;exact hy
  obtain ⟨u,hu,hdr⟩:=hr j y hy' m d hd
  have hm:m < T.size e:=by
   rw [← hok.len e y]
   rcases Nat.lt_or_ge m (T.enc e y).length with h | h
   ·exact h
   ·rw [List.getElem?_eq_none h] at hd;cases hd
  rw [Nat.zero_add] at hu
  have hcase:j * T.size e + m < i * T.size e + off ∨ i * T.size e + off + vs.length≤j * T.size e + m:=by
   rcases Nat.lt_or_gt_of_ne hji with h | h
   ·left
    have:(j + 1) * T.size e≤i * T.size e:=Nat.mul_le_mul_right _ h
    rw [Nat.add_mul,Nat.one_mul] at this
    omega
   ·right
    have:(i + 1) * T.size e≤j * T.size e:=Nat.mul_le_mul_right _ h
    rw [Nat.add_mul,Nat.one_mul] at this
    omega
  rcases hcase with h | h
  ·rw [if_pos h];exact ⟨u,hu,hdr.mono hp⟩
  ·rw [if_neg (by omega),if_neg (by omega)];exact ⟨u,hu,hdr.mono hp⟩
theorem yuEy (hok:TyOk P T) (h:Rel T w0 F0 X γ φ av w tmps S) {t:TypeId} {tg i off e:Nat} {xs:List (A e)} {x:AV A} {v ad:Value} (hx:RAV T w av S.look γ x v)
  (hn:x.cells.length = P.cellsOf t) (h1:x.cells.all (oneB S.look) = true) (hi:(P.info? t).isSome = true) (hl:S.look tg = some (.row e xs))
  {ds:List (D A)} {u:Upd A} {ts:List Nat} (hds:toDs S.look x.cells = some (ds,u,ts)) (htg:ts.contains tg = false) {y y':A e} (hy:xs[i]? = some y) (hoff:off + x.cells.length≤T.size e)
  (hdec:T.dec e (Am.splice (T.enc e y) off ds) = some y') (ha:RAV T w av S.look γ (.elp e tg i off) ad) :
  ∃ w' γ' φ' av',(Instr.storeAt t ad v).run P w = .ok () w'∧Rel T w0 F0 X γ' φ' av' w' tmps (S.upd (u++[(tg,some (.row e (xs.set i y')))])):=by
 simp only [RAV] at ha
 obtain ⟨⟨b,n,cap,hg,rfl⟩,_⟩:=ha _ hl
 have hb:ybsy S.look x = true:=by
  cases x <;> first | rfl | (simp only [AV.cells,List.all_cons,List.all_nil,Bool.and_true] at h1;exact h1)
 have hcs:=h.cells hx hb
 obtain ⟨φ1,av1,hR1,hlen,hd1,hn1,hl1,hk1,ho1,hs1⟩:=ykPy h hcs hds
 have hnot:tg ∉ ts:=by simpa using htg
 have hl':(S.upd u).look tg = some (.row e xs):=by rw [(ho1 tg hnot).1];exact hl
 have hr:=hR1.ob tg _ hl'
 simp only [ROb,RIV] at hr
 obtain ⟨ob,hφ,hs,hrow⟩:=hr
 have hlt:i < xs.length:=by
  rcases Nat.lt_or_ge i xs.length with h | h
  ·exact h
  ·rw [List.getElem?_eq_none h] at hy;cases hy
 cases ob with
 | none=>simp only [OwnSl] at hs;omega
 | some b' =>
  simp only [OwnSl] at hs
  obtain ⟨cap',c,ty,hv,hle,hc,hsz⟩:=hs
  have hbb:b' = b:=by rw [hg] at hv;simp only [Value.slice.injEq,Option.some.injEq,Addr.mk.injEq] at hv;exact hv.1.1.symm
  subst hbb
  obtain ⟨c',ty',hc',hrow'⟩:=hrow b' rfl
  rw [hc] at hc'
  cases hc'
  have hfit:i * T.size e + off + x.cells.length≤c.size:=by
   have h1:(i + 1) * T.size e≤cap' * T.size e:=Nat.mul_le_mul_right _ (by omega)
   rw [Nat.add_mul,Nat.one_mul] at h1
   omega
  obtain ⟨hrun,hxs⟩:=h.run_store hx hb h1 hn hi hc hfit
  have hvl:v.cells.toList.length = x.cells.length:=hxs.len
  obtain ⟨γ',φ',hR,hγ,hφ',_⟩:=hR1.turn (w':=w.setRow b' (Am.splice c.toList (i * T.size e + off) v.cells.toList).toArray) hl' (ybgy hl') (fun e=>absurd rfl e) (.row e (xs.set i y')) (γ tg) (fun _=>⟨rfl,rfl⟩)
   (fun b hb=>Go.setRow_other w b' b _ (fun e=>hb (by rw [hφ];simp [e]))) (Go.setRow_size _ _ _) rfl ⟨rfl,fun _=>Nat.le_refl _⟩ rfl
   (fun γ' φ' hp hγ' hφ'' hγn hcomp=>by
    simp only [ROb,RIV]
    refine ⟨some b',by rw [hφ''];exact hφ,?_,fun b hb=>?_⟩
    ·simp only [OwnSl,List.length_set]
     exact ⟨cap',_,ty,by rw [hγ',hv],hle,setRow_heap _ _ _ _ _ _ hc,by rw [List.size_toArray,ykyy _ _ _ (by simp at hvl ⊢;omega)];simpa using hsz⟩
    ·cases hb
     exact ⟨_,ty,setRow_heap _ _ _ _ _ _ hc,hrow'.set hok hy hlen (fun j d hd=>by obtain ⟨v,hv,hdr⟩:=hd1 j d hd;exact ⟨v,hv,hdr.mono hp⟩) hp (by omega) hdec (by omega)⟩)
  rw [ye0y] at hR
  refine ⟨_,γ',φ',av1,?_,by rw [ybey];exact hR⟩
  simp [Instr.storeAt,Instr.sureAddr,hrun]
theorem ybdy (w:World) (o:Obj) (b:Nat) (hb:b < w.heap.size):(w.alloc o).heap[b]? = w.heap[b]?:=by
 simp only [World.alloc,Array.getElem?_push,Nat.ne_of_lt hb,if_false]
theorem ycBy (w:World) (o:Obj):(w.alloc o).heap[w.heap.size]? = some o:=by simp only [World.alloc,Array.getElem?_push,if_true]
theorem yaQy (w:World) (o:Obj):(w.alloc o).heap.size = w.heap.size + 1:=by simp only [World.alloc,Array.size_push]
theorem yc5y {look:Nat→Option (Ob A)} {tags:List Nat} {t:Nat} (h:yboy look tags = some t):look t = none:=by
 cases tags with
 | nil=>cases h
 | cons x r =>
  simp only [yboy] at h
  split at h
  ·rename_i hn;cases h;simpa using hn
  ·cases h
theorem ycJy {u:Upd A} {t:Nat} {o:Ob A} (h:yazy S u = true) (hm:(t,some o)∈u) (hn:S.look t = none):t < S.st.length∧occSt t S = false:=by
 unfold yazy at h
 have:=List.all_eq_true.1 h _ hm
 simp [hn] at this
 exact this
theorem Rel.new_box (h:Rel T w0 F0 X γ φ av w tmps S) {t:Nat} (hlt:t < S.st.length) (hno:S.look t = none) (hocc:occSt t S = false) {cs:List (AV A)} {vs:Array Value} (e:TypeId)
  (hcs:RAVs T w av S.look γ cs vs.toList) (hsub:∀ u,yady u cs = true→occSt u S = true) :
  ∃ γ' φ' av',Rel T w0 F0 X γ' φ' av' (w.alloc (.cells vs e)) tmps (S.upd [(t,some (.box cs))]) ∧
   RAV T (w.alloc (.cells vs e)) av' (S.upd [(t,some (.box cs))]).look γ' (.ptr t 0) (.pointer (some ⟨w.heap.size,0,none⟩)):=by
 obtain ⟨γ',φ',av',hR,hγ,hφ,hγn,_⟩:=h.new (w':=w.alloc (.cells vs e)) hlt hno hocc (.box cs) (.pointer (some ⟨w.heap.size,0,none⟩)) (some w.heap.size) (by rw [yaQy];omega)
  (ybdy w _) rfl ⟨rfl,fun _=>Nat.le_refl _⟩ rfl (fun b hb=>by cases hb;exact ⟨Nat.le_refl _,by rw [yaQy];omega⟩)
  (fun av' hav hp γ' φ' hγ hφ hγn=>by
   simp only [ROb]
   refine ⟨w.heap.size,vs,e,hγ,by rw [hφ];rfl,ycBy w _,?_⟩
   refine RAVs.mono hp _ _ (fun u hu o' ho'=>?_) hcs
   have hut:u≠t:=by rintro rfl;rw [hsub u hu] at hocc;cases hocc
   rw [yayy,if_neg (fun hc=>hut hc.1)] at ho'
   exact ⟨o',ho',hγn u hut,rfl⟩)
 refine ⟨γ',φ',av',hR,?_⟩
 simp only [RAV]
 intro o ho
 refine ⟨⟨w.heap.size,hγ,rfl⟩,?_⟩
 rw [yhUy,yayy,if_pos ⟨rfl,hlt⟩] at ho
 cases ho
 rfl
theorem Rel.new_row (h:Rel T w0 F0 X γ φ av w tmps S) {t:Nat} (hlt:t < S.st.length) (hno:S.look t = none) (hocc:occSt t S = false) {e cap:Nat} {xs:List (A e)} {vs:Array Value} (ty:TypeId)
  (hrow:Row T w av vs 0 e xs) (hcap:xs.length≤cap) (hsz:cap * T.size e≤vs.size) (hw:w'.heap = (w.alloc (.cells vs ty)).heap) (hos:w'.os = w.os) (htape:ycZy T w w') (hout:w'.output = w.output) :
  ∃ γ' φ' av',Rel T w0 F0 X γ' φ' av' w' tmps (S.upd [(t,some (.row e xs))]) ∧
   RAV T w' av' (S.upd [(t,some (.row e xs))]).look γ' (.own e t) (.slice (some ⟨w.heap.size,0,none⟩) xs.length cap):=by
 obtain ⟨γ',φ',av',hR,hγ,hφ,hγn,_⟩:=h.new (w':=w') hlt hno hocc (.row e xs) (.slice (some ⟨w.heap.size,0,none⟩) xs.length cap) (some w.heap.size) (by rw [hw,yaQy];omega)
  (fun b hb=>by rw [hw];exact ybdy w _ b hb) hos htape hout (fun b hb=>by cases hb;exact ⟨Nat.le_refl _,by rw [hw,yaQy];omega⟩)
  (fun av' hav hp γ' φ' hγ hφ hγn=>by
   simp only [ROb,RIV]
   refine ⟨some w.heap.size,hφ,?_,fun b hb=>?_⟩
   ·simp only [OwnSl]
    exact ⟨cap,vs,ty,hγ,hcap,by rw [hw];exact ycBy w _,hsz⟩
   ·cases hb
    exact ⟨vs,ty,by rw [hw];exact ycBy w _,hrow.mono hp⟩)
 refine ⟨γ',φ',av',hR,?_⟩
 simp only [RAV]
 intro o ho
 refine ⟨hγ.symm,?_⟩
 rw [yhUy,yayy,if_pos ⟨rfl,hlt⟩] at ho
 cases ho
 rfl
theorem Rel.new_bld (h:Rel T w0 F0 X γ φ av w tmps S) {t:Nat} (hlt:t < S.st.length) (hno:S.look t = none) (hocc:occSt t S = false) {e:TypeId} (he:T.bld.map (·.1) = some e) :
  ∃ γ' φ' av',Rel T w0 F0 X γ' φ' av' (w.alloc (.cells #[.pointer none,.slice none 0 0] e)) tmps (S.upd [(t,some (.bld []))]) ∧
   RAV T (w.alloc (.cells #[.pointer none,.slice none 0 0] e)) av' (S.upd [(t,some (.bld []))]).look γ' (.ptr t 0) (.pointer (some ⟨w.heap.size,0,none⟩)):=by
 obtain ⟨⟨tb,te⟩,hT,rfl⟩:=Option.map_eq_some_iff.1 he
 obtain ⟨γ',φ',av',hR,hγ,hφ,hγn,_⟩:=h.new (w':=w.alloc (.cells #[.pointer none,.slice none 0 0] tb)) hlt hno hocc (.bld []) (.pointer (some ⟨w.heap.size,0,none⟩)) (some w.heap.size) (by rw [yaQy];omega)
  (ybdy w _) rfl ⟨rfl,fun _=>Nat.le_refl _⟩ rfl (fun b hb=>by cases hb;exact ⟨Nat.le_refl _,by rw [yaQy];omega⟩)
  (fun av' hav hp γ' φ' hγ hφ hγn=>by
   simp only [ROb]
   exact ⟨tb,te,w.heap.size,.pointer none,.slice none 0 0,hT,hγ,hφ,⟨ycBy w _,.inl rfl,⟨rfl,.inl ⟨rfl,rfl⟩⟩,(by simp [Value.ownBlock]),fun _=>rfl⟩⟩)
 refine ⟨γ',φ',av',hR,?_⟩
 simp only [RAV]
 intro o ho
 refine ⟨⟨w.heap.size,hγ,rfl⟩,?_⟩
 rw [yhUy,yayy,if_pos ⟨rfl,hlt⟩] at ho
 cases ho
 rfl
theorem yzyy {v:Value} (h:const1 (A:=A) v = .d .nsl):v = .slice none 0 0:=by
 unfold const1 at h
 split at h <;> first | rfl | (cases h;done)
theorem yxhy {v:Value} (h:const1 (A:=A) v = .d (.lit (.pointer none))):v = .pointer none:=by
 unfold const1 at h
 split at h <;> first | (cases h;done) | (cases h;rfl)
theorem yB2y {l:List Value} (h:l.map (const1 (A:=A)) = [.d (.lit (.pointer none)),.d .nsl]):l = [.pointer none,.slice none 0 0]:=by
 match l with
 | []=>cases h
 | [_]=>simp at h
 | a::b::c::r=>simp at h
 | [a,b] =>
  simp only [List.map_cons,List.map_nil,List.cons.injEq,and_true] at h
  rw [yxhy h.1,yzyy h.2]
theorem ygEy {t:TypeId} {cs:List (AV A)} (hz:zeros P t = some cs):∃ z,(zeroValue t).run P w = .ok z w∧cs = z.cells.toList.map const1:=by
 unfold zeros at hz
 cases hi:P.info? t with
 | none=>simp [hi] at hz
 | some i =>
  cases hz':i.zero with
  | none=>simp [hi,hz'] at hz
  | some z =>
   simp [hi,hz'] at hz
   exact ⟨z,by simp [zeroValue,typeInfo,hi,hz'],hz.symm⟩
theorem yEzy (E:Env A) (h:Rel E.T w0 F0 X γ φ av w tmps S) {o:Oper} {e:TypeId} {ds:List Deferred} (ho:o.op = .alloc e)
  (hk:opK E S.look (yafy S.fr) k o = some res) (hf:∀ v u ts,k v u ts = some res→yazy S u = true) :
  Did E.T w0 F0 X tmps S k res ((execOp (Act.eval ⟨tmps,ds⟩) o).run E.P w):=by
 unfold opK at hk
 simp only [ho] at hk
 cases ht:yboy S.look (E.tags o) with
 | none=>simp [ht] at hk
 | some t =>
  cases hz:zeros (A:=A) E.P e with
  | none=>simp [hz] at hk
  | some cs =>
   simp only [ht,hz] at hk
   obtain ⟨z,hrun,rfl⟩:=ygEy (w:=w) hz
   have hno:=yc5y ht
   split at hk
   ·rename_i hb
    split at hk
    ·rename_i hz2
     obtain ⟨hlt,hocc⟩:=ycJy (hf _ _ _ hk) (List.mem_singleton.2 rfl) hno
     obtain ⟨γ',φ',av',hR,hv⟩:=h.new_bld hlt hno hocc hb
     have hc:z.cells = #[.pointer none,.slice none 0 0]:=Array.toList_inj.1 (yB2y hz2)
     refine ⟨_,_,.inl ?_,_,_,_,γ',φ',av',hk,hR,hv⟩
     simp [execOp,ho,Instr.alloc,newVar,newRow,hrun,hc]
    ·cases hk
   obtain ⟨hlt,hocc⟩:=ycJy (hf _ _ _ hk) (List.mem_singleton.2 rfl) hno
   obtain ⟨γ',φ',av',hR,hv⟩:=h.new_box hlt hno hocc (vs:=z.cells) e (RAVs.of_const1 _ _) (fun u hu=>by rw [yoCy] at hu;cases hu)
   refine ⟨_,_,.inl ?_,_,_,_,γ',φ',av',hk,hR,hv⟩
   simp [execOp,ho,Instr.alloc,newVar,newRow,hrun]
theorem yI9y (E:Env A) (h:Rel E.T w0 F0 X γ φ av w tmps S) {o:Oper} {e:TypeId} {x:Operand} {ds:List Deferred} (ho:o.op = .box e x)
  (hk:opK E S.look (yafy S.fr) k o = some res) (hf:∀ v u ts,k v u ts = some res→yazy S u = true) :
  Did E.T w0 F0 X tmps S k res ((execOp (Act.eval ⟨tmps,ds⟩) o).run E.P w):=by
 have hx:=h.eval ds x
 unfold opK at hk
 simp only [ho] at hk
 cases ht:yboy S.look (E.tags o) with
 | none=>simp [ht] at hk
 | some t =>
  simp only [ht] at hk
  split at hk
  ·rename_i hb
   have hno:=yc5y ht
   obtain ⟨hlt,hocc⟩:=ycJy (hf _ _ _ hk) (List.mem_singleton.2 rfl) hno
   obtain ⟨γ',φ',av',hR,hv⟩:=h.new_box hlt hno hocc e (h.cells hx hb) (fun u hu=>ylsy (ysry hu))
   refine ⟨_,_,.inl ?_,_,_,_,γ',φ',av',hk,hR,hv⟩
   simp [execOp,ho,Instr.box,newVar,newRow]
  ·cases hk
theorem yopy:∀ (l:List Value) (off k:Nat) (cells:Array Value),off + k + l.length≤cells.size →
  ((l.zipIdx k).foldl (fun cs (p:Value×Nat)=>cs.setIfInBounds (off + p.2) p.1) cells).toList = Am.splice cells.toList (off + k) l
 | [],off,k,cells,h=>by simp [Am.splice]
 | v::l,off,k,cells,h=>by
  simp only [List.zipIdx_cons,List.foldl_cons]
  rw [yopy l off (k + 1) _ (by simp at h ⊢;omega)]
  apply List.ext_getElem?
  intro p
  simp at h
  rw [ydXy _ _ _ (by simp;omega),ydXy _ _ _ (by simp;omega)]
  simp only [Array.toList_setIfInBounds,List.getElem?_set,List.length_cons,Array.length_toList]
  by_cases h1:p < off + k
  ·rw [if_pos (by omega),if_pos h1,if_neg (by omega)]
  ·rw [if_neg h1]
   by_cases h2:p = off + k
   ·subst h2
    rw [if_pos (by omega),if_pos rfl,if_pos (by omega),if_pos (by omega)]
    simp
   ·rw [if_neg (by omega)]
    by_cases h3:p < off + (k + 1) + l.length
    ·rw [if_pos h3,if_pos (by omega)]
     rw [show p - (off + k) = (p - (off + (k + 1))) + 1 from by omega]
     simp
    ·rw [if_neg h3,if_neg (Ne.symm h2),if_neg (by omega)]
theorem Rel.fill (h:Rel T w0 F0 X γ φ av w tmps S) {place:Nat→Option (Nat×Nat)}:∀ {parts:List (Nat×AV A)} {ps:List (Nat×Value)} {cs cs':List (AV A)} {cells:Array Value},
  parts.length = ps.length→(∀ (j:Nat) p,parts[j]? = some p→∃ q,ps[j]? = some q∧q.1 = p.1∧RAV T w av S.look γ p.2 q.2)→RAVs T w av S.look γ cs cells.toList→fillS S.look place cs parts = some cs' →
  ∃ cells',Instr.fill place cells ps = some cells'∧RAVs T w av S.look γ cs' cells'.toList
 | [],ps,cs,cs',cells,hl,hp,hcs,hf=>by
  simp [fillS] at hf
  subst hf
  have:ps = []:=List.eq_nil_of_length_eq_zero (by simpa using hl.symm)
  subst this
  exact ⟨cells,rfl,hcs⟩
 | (i,x)::parts,[],cs,cs',cells,hl,hp,hcs,hf=>by simp at hl
 | (i,x)::parts,(i',v)::ps,cs,cs',cells,hl,hp,hcs,hf=>by
  obtain ⟨q,hq,hi,hx⟩:=hp 0 (i,x) rfl
  simp at hq
  subst hq
  simp at hi
  subst hi
  simp only [fillS] at hf
  cases hpl:place i' with
  | none=>simp [hpl] at hf
  | some os =>
   obtain ⟨off,size⟩:=os
   simp only [hpl] at hf
   split at hf
   ·rename_i hc
    obtain ⟨h1,h2,h3⟩:=hc
    have hxc:=h.cells hx h3
    have hlen:=hxc.len
    have hcl:=hcs.len
    have hfold:=yopy v.cells.toList off 0 cells (by simp at hlen hcl ⊢;omega)
    have hnew:RAVs T w av S.look γ (Am.splice cs off x.cells) (v.cells.zipIdx.foldl (fun cs (p:Value×Nat)=>cs.setIfInBounds (off + p.2) p.1) cells).toList:=by
     have e:v.cells.zipIdx.foldl (fun cs (p:Value×Nat)=>cs.setIfInBounds (off + p.2) p.1) cells = (v.cells.toList.zipIdx).foldl (fun cs (p:Value×Nat)=>cs.setIfInBounds (off + p.2) p.1) cells:=by
      rw [← Array.foldl_toList]
      simp
     rw [e,hfold]
     exact hcs.splice off hxc
    obtain ⟨cells',hfill,hr⟩:=Rel.fill h (by simpa using hl) (fun j p hj=>hp (j + 1) p (by simpa using hj)) hnew hf
    refine ⟨cells',?_,hr⟩
    simp only [Instr.fill,hpl]
    rw [if_neg]
    ·exact hfill
    ·simp at hlen hcl ⊢;omega
   ·cases hf
theorem yEty (E:Env A) (h:Rel E.T w0 F0 X γ φ av w tmps S) {o:Oper} {t:TypeId} {ps:Array (Nat×Operand)} {ds:List Deferred} (ho:o.op = .build t ps)
  (hk:opK E S.look (yafy S.fr) k o = some res):Did E.T w0 F0 X tmps S k res ((execOp (Act.eval ⟨tmps,ds⟩) o).run E.P w):=by
 unfold opK at hk
 simp only [ho] at hk
 cases hb:ychy E.P S.look t (ps.toList.map fun p=>(p.1,yafy S.fr p.2)) with
 | none=>simp [hb] at hk
 | some cs =>
  simp only [hb] at hk
  have hparts:∀ (j:Nat) p,(ps.toList.map fun p=>(p.1,yafy S.fr p.2))[j]? = some p →
    ∃ q,(ps.map fun (i,x)=>(i,Act.eval ⟨tmps,ds⟩ x)).toList[j]? = some q∧q.1 = p.1∧RAV E.T w av S.look γ p.2 q.2:=by
   intro j p hp
   simp only [List.getElem?_map,Option.map_eq_some_iff] at hp
   obtain ⟨a,ha,rfl⟩:=hp
   exact ⟨(a.1,Act.eval ⟨tmps,ds⟩ a.2),by simp at ha;simp [ha],rfl,h.eval ds a.2⟩
  have hlen:(ps.toList.map fun p=>(p.1,yafy S.fr p.2)).length = (ps.map fun (i,x)=>(i,Act.eval ⟨tmps,ds⟩ x)).toList.length:=by simp
  have hbuilt:∃ cells,E.P.built t (ps.map fun (i,x)=>(i,Act.eval ⟨tmps,ds⟩ x)).toList = some cells∧RAVs E.T w av S.look γ cs cells.toList:=by
   unfold ychy at hb
   unfold Program.built
   cases hit:E.P.info? t with
   | none=>simp [hit] at hb
   | some it =>
    cases hu:E.P.underlying t with
    | none=>simp [hit,hu] at hb
    | some d =>
     rw [hit,hu] at hb
     cases d <;> dsimp only at hb ⊢ <;> try (cases hb;done)
     case array n e =>
      cases hz:it.zero with
      | none=>simp [hz] at hb
      | some z =>
       cases hie:E.P.info? e with
       | none=>simp [hz,hie] at hb
       | some ie =>
        simp only [hz,hie] at hb ⊢
        exact h.fill hlen hparts (RAVs.of_const1 _ _) hb
     case struct fields =>
      cases hz:it.zero with
      | none=>simp [hz] at hb
      | some z =>
       cases hp:fields.toList.mapM (fun f=>(E.P.info? f.type).map fun i=>(f.offset,i.size)) with
       | none=>simp [hz,hp] at hb
       | some places =>
        simp only [hz,hp] at hb ⊢
        exact h.fill hlen hparts (RAVs.of_const1 _ _) hb
  obtain ⟨cells,hc,hr⟩:=hbuilt
  exact yaty (u:=.agg cells) h hk (by simp only [execOp,ho,Sem.run_bind,run_build w t _ cells hc,Result.andThen_ok,Sem.run_pure]) (by simp only [RAV];exact ⟨cells,rfl,hr⟩)
end Go.Am
