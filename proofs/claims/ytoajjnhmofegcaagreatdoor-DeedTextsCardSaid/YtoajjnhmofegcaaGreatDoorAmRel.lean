/- Part of an abstract machine for this program, with its soundness: AmRel. No condition: lemmas for the claim. -/
import Derived.Test.YtoajjnhmofegcaaGreatDoorAmExec
set_option linter.unusedVariables false
namespace Go.Am
open Go
variable {A:Nat→Type}
def Pres (w:World) (av:Nat→Prop) (w':World) (av':Nat→Prop):Prop :=
 ∀ b o,¬ av b→w.heap[b]? = some o→w'.heap[b]? = some o∧¬ av' b
theorem Pres.refl (w:World) (av:Nat→Prop):Pres w av w av:=fun _ _ h g=>⟨g,h⟩
theorem DRep.mono {T:Ty A} {w w':World} {av av':Nat→Prop} (h:Pres w av w' av'):∀ n (d:D A) v,DRep T w av n d v→DRep T w' av' n d v:=by
 intro n
 induction n with
 | zero=>intro d v hd;cases d <;> first | exact False.elim hd | simpa [DRep] using hd
 | succ n ih =>
  intro d v hd
  cases d with
  | sl e xs =>
   simp only [DRep] at hd ⊢
   obtain ⟨a,cap,rfl,hpa,hcap,hx⟩:=hd
   refine ⟨a,cap,rfl,hpa,hcap,fun hne=>?_⟩
   obtain ⟨b,o,c,ty,fz,ha,hav,hb,hc⟩:=hx hne
   obtain ⟨hb',hav'⟩:=h b _ hav hb
   refine ⟨b,o,c,ty,fz,ha,hav',hb',fun i x hi j d hj=>?_⟩
   obtain ⟨u,hu,hd⟩:=hc i x hi j d hj
   exact ⟨u,hu,ih d u hd⟩
  | clo f e xs =>
   simp only [DRep] at hd ⊢
   obtain ⟨b1,o1,c1,ty1,fz1,u,b2,c2,ty2,fz2,h0,h1,h2,h3,h4,h5,h6,h7⟩:=hd
   obtain ⟨h2',h1'⟩:=h b1 _ h1 h2
   obtain ⟨h6',h5'⟩:=h b2 _ h5 h6
   exact ⟨b1,o1,c1,ty1,fz1,u,b2,c2,ty2,fz2,h0,h1',h2',h3,ih _ _ h4,h5',h6',h7⟩
  | _=>simpa [DRep] using hd
theorem DRep.up {T:Ty A} {w:World} {av:Nat→Prop}:∀ n (d:D A) v,DRep T w av n d v→DRep T w av (n + 1) d v:=by
 intro n
 induction n with
 | zero =>
  intro d v hd
  cases d with
  | sl e xs =>
   simp only [DRep] at hd ⊢
   obtain ⟨rfl,a,cap,rfl,hpa⟩:=hd
   exact ⟨a,cap,rfl,hpa,Nat.zero_le _,fun h=>absurd rfl h⟩
  | clo f e xs=>exact False.elim hd
  | _=>simpa [DRep] using hd
 | succ n ih =>
  intro d v hd
  cases d with
  | sl e xs =>
   simp only [DRep] at hd
   obtain ⟨a,cap,rfl,hpa,hcap,hx⟩:=hd
   refine ⟨a,cap,rfl,hpa,hcap,fun hne=>?_⟩
   obtain ⟨b,o,c,ty,fz,ha,hav,hb,hc⟩:=hx hne
   refine ⟨b,o,c,ty,fz,ha,hav,hb,fun i x hi j d hj=>?_⟩
   obtain ⟨u,hu,hd⟩:=hc i x hi j d hj
   exact ⟨u,hu,ih d u hd⟩
  | clo f e xs =>
   simp only [DRep] at hd
   obtain ⟨b1,o1,c1,ty1,fz1,u,b2,c2,ty2,fz2,h0,h1,h2,h3,h4,h5,h6,h7⟩:=hd
   have h4':=ih (.sl e xs) u h4
   exact ⟨b1,o1,c1,ty1,fz1,u,b2,c2,ty2,fz2,h0,h1,h2,h3,h4',h5,h6,h7⟩
  | _=>simpa [DRep] using hd
theorem DRep.le {T:Ty A} {w:World} {av:Nat→Prop} {n m:Nat} (h:n≤m) {d:D A} {v:Value} (hd:DRep T w av n d v):DRep T w av m d v:=by
 induction h with
 | refl=>exact hd
 | step _ ih=>exact DRep.up _ _ _ ih
theorem DR.mono {T:Ty A} {w w':World} {av av':Nat→Prop} (h:Pres w av w' av') {d:D A} {v:Value} (hd:DR T w av d v):DR T w' av' d v:=by
 obtain ⟨n,hn⟩:=hd
 exact ⟨n,hn.mono h⟩
theorem yaNy.mono {T:Ty A} {w w':World} {av av':Nat→Prop} (h:Pres w av w' av') {e:Nat} {x:A e} {v:Value} (hr:yaNy T w av e x v):yaNy T w' av' e x v:=by
 obtain ⟨us,h1,h2,h3⟩:=hr
 refine ⟨us,h1,h2,fun j d hj=>?_⟩
 obtain ⟨u,hu,hd⟩:=h3 j d hj
 exact ⟨u,hu,hd.mono h⟩
theorem yaBy.len {T:Ty A} {w:World} {av:Nat→Prop} {k e:Nat}:∀ {es:List MapEntry} {m:List (A k×A e)},yaBy T w av k e es m→es.length = m.length
 | [],[],_=>rfl
 | x::xs,p::ps,hm=>by simp [yaBy.len hm.2.2]
 | [],_::_,hm=>hm.elim
 | _::_,[],hm=>hm.elim
theorem yaBy.mono {T:Ty A} {w w':World} {av av':Nat→Prop} (h:Pres w av w' av') {k e:Nat}:∀ {es:List MapEntry} {m:List (A k×A e)},yaBy T w av k e es m→yaBy T w' av' k e es m
 | [],[],_=>trivial
 | x::xs,p::ps,hm=>⟨hm.1.mono h,hm.2.1.mono h,yaBy.mono h hm.2.2⟩
 | [],_::_,hm=>hm.elim
 | _::_,[],hm=>hm.elim
theorem Row.mono {T:Ty A} {w w':World} {av av':Nat→Prop} (h:Pres w av w' av') {c:Array Value} {o e:Nat} {xs:List (A e)} (hr:Row T w av c o e xs):Row T w' av' c o e xs:=by
 intro i x hi j d hj
 obtain ⟨u,hu,hd⟩:=hr i x hi j d hj
 exact ⟨u,hu,hd.mono h⟩
mutual
theorem RIV.mono {T:Ty A} {w w':World} {av av':Nat→Prop} (h:Pres w av w' av'):∀ (x:IV A) v F,(∀ b∈F,w'.heap[b]? = w.heap[b]?)→RIV T w av x v F→RIV T w' av' x v F
 | .undef,v,F,hF,hx=>by simpa [RIV] using hx
 | .d x,v,F,hF,hx=>by simp only [RIV] at hx ⊢;exact ⟨hx.1,hx.2.mono h⟩
 | .arr e xs,v,F,hF,hx=>by
  simp only [RIV] at hx ⊢
  obtain ⟨ob,rfl,hs,hr⟩:=hx
  refine ⟨ob,rfl,?_,fun b hb=>?_⟩
  ·cases ob with
   | none=>exact hs
   | some b =>
    simp only [OwnSl] at hs ⊢
    obtain ⟨cap,c,ty,rfl,hle,hc,hsz⟩:=hs
    exact ⟨cap,c,ty,rfl,hle,by rw [hF b (by simp)];exact hc,hsz⟩
  ·obtain ⟨c,ty,hc,hrow⟩:=hr b hb
   exact ⟨c,ty,by rw [hF b (by simp [hb])];exact hc,hrow.mono h⟩
 | .agg cs,v,F,hF,hx=>by
  simp only [RIV] at hx ⊢
  obtain ⟨vs,rfl,hs⟩:=hx
  exact ⟨vs,rfl,RIVs.mono h cs _ F hF hs⟩
 | .tup cs,v,F,hF,hx=>by
  simp only [RIV] at hx ⊢
  obtain ⟨vs,rfl,hs⟩:=hx
  exact ⟨vs,rfl,RIVs.mono h cs _ F hF hs⟩
 | .box cs,v,F,hF,hx=>by
  simp only [RIV] at hx ⊢
  obtain ⟨b,c,ty,F',rfl,rfl,hc,hs⟩:=hx
  exact ⟨b,c,ty,F',rfl,rfl,by rw [hF b (by simp)];exact hc,RIVs.mono h cs _ F' (fun b hb=>hF b (by simp [hb])) hs⟩
 | .fn f cs,v,F,hF,hx=>by
  simp only [RIV] at hx ⊢
  obtain ⟨vs,rfl,hs⟩:=hx
  exact ⟨vs,rfl,RIVs.mono h cs _ F hF hs⟩
 | .mp k e m,v,F,hF,hx=>by
  simp only [RIV] at hx ⊢
  obtain ⟨b,es,clock,rfl,rfl,hb,hm⟩:=hx
  exact ⟨b,es,clock,rfl,rfl,by rw [hF b (by simp)];exact hb,hm.1.mono h,hm.2⟩
 | .cel cells off,v,F,hF,hx=>by
  simp only [RIV] at hx ⊢
  obtain ⟨rfl,b,o,c,ty,fz,rfl,hav,hb,hd⟩:=hx
  obtain ⟨hb',hav'⟩:=h b _ hav hb
  refine ⟨rfl,b,o,c,ty,fz,rfl,hav',hb',fun j d hj=>?_⟩
  obtain ⟨u,hu,hd⟩:=hd j d hj
  exact ⟨u,hu,hd.mono h⟩
theorem RIVs.mono {T:Ty A} {w w':World} {av av':Nat→Prop} (h:Pres w av w' av'):∀ (xs:List (IV A)) vs F,(∀ b∈F,w'.heap[b]? = w.heap[b]?)→RIVs T w av xs vs F→RIVs T w' av' xs vs F
 | [],vs,F,hF,hx=>by simpa [RIVs] using hx
 | x::xs,vs,F,hF,hx=>by
  simp only [RIVs] at hx ⊢
  obtain ⟨v,vs',F1,F2,rfl,rfl,h1,h2⟩:=hx
  exact ⟨v,vs',F1,F2,rfl,rfl,RIV.mono h x v F1 (fun b hb=>hF b (by simp [hb])) h1,RIVs.mono h xs vs' F2 (fun b hb=>hF b (by simp [hb])) h2⟩
end
mutual
def RAV (T:Ty A) (w:World) (av:Nat→Prop) (look:Nat→Option (Ob A)) (γ:Nat→Value):AV A→Value→Prop
 | .undef,_=>True
 | .d x,v=>DR T w av x v
 | .agg cs,v=>∃ vs,v = .agg vs∧RAVs T w av look γ cs vs.toList
 | .tup cs,v=>∃ vs,v = .tuple vs∧RAVs T w av look γ cs vs.toList
 | .own e t,v=>∀ o,look t = some o→v = γ t∧o.kind = (0,e)
 | .ptr t off,v=>∀ o,look t = some o→(∃ b,γ t = .pointer (some ⟨b,0,none⟩)∧v = .pointer (some ⟨b,off,none⟩))∧o.kind = (1,0)
 | .elp e t i off,v=>∀ o,look t = some o→(∃ b n cap,γ t = .slice (some ⟨b,0,none⟩) n cap∧v = .pointer (some ⟨b,i * T.size e + off,none⟩))∧o.kind = (0,e)
 | .cel cells off,v=>∃ b o c ty fz,v = .pointer (some ⟨b,o + off,none⟩)∧¬ av b∧w.heap[b]? = some (.cells c ty fz)∧∀ j d,cells[j]? = some d→∃ u,c[o + j]? = some u∧DR T w av d u
 | .fn f cs,v=>∃ vs,v = .func (.func f) #[] vs∧RAVs T w av look γ cs vs.toList
 | .mp t,v=>∀ o,look t = some o→v = γ t∧o.kind = (2,0)
 | .vw e t lo hi,v=>∀ o,look t = some o→(∃ b n cap pa cap',γ t = .slice (some ⟨b,0,none⟩) n cap∧v = .slice pa (hi - lo).toNat cap'∧0≤lo∧lo≤hi∧(lo < hi→pa = some ⟨b,lo.toNat * T.size e,none⟩))∧o.kind = (0,e)
def RAVs (T:Ty A) (w:World) (av:Nat→Prop) (look:Nat→Option (Ob A)) (γ:Nat→Value):List (AV A)→List Value→Prop
 | [],vs=>vs = []
 | x::xs,vs=>∃ v vs',vs = v::vs'∧RAV T w av look γ x v∧RAVs T w av look γ xs vs'
end
theorem Bld.same {w w':World} {tb te b:Nat} {p v:Value} {s:List UInt8} (h:Bld w tb te b p v s) (hb:w'.heap[b]? = w.heap[b]?) (hg:∀ g,v.ownBlock = some g→w'.heap[g]? = w.heap[g]?):Bld w' tb te b p v s:=by
 refine ⟨hb.trans h.blk,h.own,⟨h.row.1,?_⟩,h.ne,h.nil⟩
 rcases h.row.2 with hn | ⟨g,cap,cur,rfl,h0,h1,h2⟩
 ·exact .inl hn
 ·exact .inr ⟨g,cap,cur,rfl,h0,(hg g rfl).trans h1,h2⟩
def ROb (T:Ty A) (w:World) (av:Nat→Prop) (look:Nat→Option (Ob A)) (γ:Nat→Value) (φ:Nat→List Nat) (t:Nat):Ob A→Prop
 | .row e xs=>RIV T w av (.arr e xs) (γ t) (φ t)
 | .frz e xs=>φ t = []∧DR T w av (.sl e xs) (γ t)∧(xs = [] ∨ ∃ b n cap,γ t = .slice (some ⟨b,0,none⟩) n cap)
 | .box cs=>∃ b c ty,γ t = .pointer (some ⟨b,0,none⟩)∧φ t = [b]∧w.heap[b]? = some (.cells c ty (0,0))∧RAVs T w av look γ cs c.toList
 | .mp k e m=>RIV T w av (.mp k e m) (γ t) (φ t)
 | .bld s=>∃ tb te b p v,T.bld = some (tb,te)∧γ t = .pointer (some ⟨b,0,none⟩)∧φ t = b::v.ownBlock.toList∧Bld w tb te b p v s
 | .gone _=>φ t = []∧(γ t).oneCell' = true
def yauy (look:Nat→Option (Ob A)) (γ:Nat→Value) (look':Nat→Option (Ob A)) (γ':Nat→Value) (t:Nat):Prop :=
 ∀ o',look' t = some o'→∃ o,look t = some o∧γ' t = γ t∧o'.kind = o.kind
mutual
theorem RAV.mono {T:Ty A} {w w':World} {av av':Nat→Prop} {look look':Nat→Option (Ob A)} {γ γ':Nat→Value} (h:Pres w av w' av') :
  ∀ (x:AV A) v,(∀ t,occAV t x = true→yauy look γ look' γ' t)→RAV T w av look γ x v→RAV T w' av' look' γ' x v
 | .undef,v,hc,hx=>trivial
 | .d x,v,hc,hx=>by simp only [RAV] at hx ⊢;exact hx.mono h
 | .agg cs,v,hc,hx=>by
  simp only [RAV] at hx ⊢;obtain ⟨vs,rfl,hs⟩:=hx;exact ⟨vs,rfl,RAVs.mono h cs _ (fun t ht=>hc t (by simpa [occAV] using ht)) hs⟩
 | .tup cs,v,hc,hx=>by
  simp only [RAV] at hx ⊢;obtain ⟨vs,rfl,hs⟩:=hx;exact ⟨vs,rfl,RAVs.mono h cs _ (fun t ht=>hc t (by simpa [occAV] using ht)) hs⟩
 | .fn f cs,v,hc,hx=>by
  simp only [RAV] at hx ⊢;obtain ⟨vs,rfl,hs⟩:=hx;exact ⟨vs,rfl,RAVs.mono h cs _ (fun t ht=>hc t (by simpa [occAV] using ht)) hs⟩
 | .own e t,v,hc,hx=>by
  simp only [RAV] at hx ⊢
  intro o' ho'
  obtain ⟨o,ho,hg,hk⟩:=hc t (by simp [occAV]) o' ho'
  obtain ⟨hv,hxs⟩:=hx o ho
  exact ⟨hg ▸ hv,hk.trans hxs⟩
 | .ptr t off,v,hc,hx=>by
  simp only [RAV] at hx ⊢
  intro o' ho'
  obtain ⟨o,ho,hg,hk⟩:=hc t (by simp [occAV]) o' ho'
  obtain ⟨hv,hxs⟩:=hx o ho
  exact ⟨hg ▸ hv,hk.trans hxs⟩
 | .elp e t i off,v,hc,hx=>by
  simp only [RAV] at hx ⊢
  intro o' ho'
  obtain ⟨o,ho,hg,hk⟩:=hc t (by simp [occAV]) o' ho'
  obtain ⟨hv,hxs⟩:=hx o ho
  exact ⟨hg ▸ hv,hk.trans hxs⟩
 | .cel cells off,v,hc,hx=>by
  simp only [RAV] at hx ⊢
  obtain ⟨b,o,c,ty,fz,rfl,hav,hb,hd⟩:=hx
  obtain ⟨hb',hav'⟩:=h b _ hav hb
  refine ⟨b,o,c,ty,fz,rfl,hav',hb',fun j d hj=>?_⟩
  obtain ⟨u,hu,hd⟩:=hd j d hj
  exact ⟨u,hu,hd.mono h⟩
 | .mp t,v,hc,hx=>by
  simp only [RAV] at hx ⊢
  intro o' ho'
  obtain ⟨o,ho,hg,hk⟩:=hc t (by simp [occAV]) o' ho'
  obtain ⟨hv,hxs⟩:=hx o ho
  exact ⟨hg ▸ hv,hk.trans hxs⟩
 | .vw e t lo hi,v,hc,hx=>by
  simp only [RAV] at hx ⊢
  intro o' ho'
  obtain ⟨o,ho,hg,hk⟩:=hc t (by simp [occAV]) o' ho'
  obtain ⟨hv,hxs⟩:=hx o ho
  exact ⟨hg ▸ hv,hk.trans hxs⟩
theorem RAVs.mono {T:Ty A} {w w':World} {av av':Nat→Prop} {look look':Nat→Option (Ob A)} {γ γ':Nat→Value} (h:Pres w av w' av') :
  ∀ (xs:List (AV A)) vs,(∀ t,yady t xs = true→yauy look γ look' γ' t)→RAVs T w av look γ xs vs→RAVs T w' av' look' γ' xs vs
 | [],vs,hc,hx=>by simpa [RAVs] using hx
 | x::xs,vs,hc,hx=>by
  simp only [RAVs] at hx ⊢
  obtain ⟨v,vs',rfl,h1,h2⟩:=hx
  exact ⟨v,vs',rfl,RAV.mono h x v (fun t ht=>hc t (by simp [yady,ht])) h1,RAVs.mono h xs vs' (fun t ht=>hc t (by simp [yady,ht])) h2⟩
end
structure Rel (T:Ty A) (w0:World) (F0:List Nat) (X:Nat→Prop) (γ:Nat→Value) (φ:Nat→List Nat) (av:Nat→Prop) (w:World) (tmps:Array Value) (S:St A):Prop where
 fr:RAVs T w av S.look γ S.fr tmps.toList
 ob:∀ t o,S.look t = some o→ROb T w av S.look γ φ t o
 nd:∀ t o,S.look t = some o→(φ t).Nodup
 disj:∀ t o t' o',S.look t = some o→S.look t' = some o'→t≠t'→∀ b∈φ t,b ∉ φ t'
 avs:∀ b,(X b ∨ ∃ t o,S.look t = some o∧b∈φ t)→av b
 avlt:∀ b,av b→b < w.heap.size
 fp:∀ t o,S.look t = some o→∀ b∈φ t,(b∈F0 ∨ w0.heap.size≤b)∧b < w.heap.size
 x:∀ b,X b→b < w0.heap.size∧b ∉ F0
 left:Left T w0 w (·∈F0)
 amb:AmbF T w0 F0
theorem yEyy {S:St A} {t:Nat} {o:Ob A} (h:S.look t = some o):some o∈S.st:=by
 unfold St.look at h
 cases hs:S.st[t]? with
 | none=>simp [hs] at h
 | some x=>simp [hs] at h;subst h;exact List.mem_of_getElem? hs
theorem yiEy {S:St A} {t t':Nat} {cs:List (AV A)} (h:S.look t' = some (.box cs)) (ho:yady t cs = true):occSt t S = true:=by
 unfold occSt
 rw [Bool.or_eq_true]
 exact .inr (List.any_eq_true.2 ⟨_,yEyy h,by simpa [occOb] using ho⟩)
variable {T:Ty A} {w0 w w':World} {F0:List Nat} {X:Nat→Prop} {γ γ':Nat→Value} {φ φ':Nat→List Nat} {av av':Nat→Prop} {tmps:Array Value} {S S':St A}
theorem ROb.same (hp:Pres w av w' av') {t:Nat} {o:Ob A} (hφ:φ' t = φ t) (hγ:γ' t = γ t) (hb:∀ b∈φ t,w'.heap[b]? = w.heap[b]?)
  (hc:∀ u cs,o = .box cs→yady u cs = true→yauy S.look γ S'.look γ' u) (h:ROb T w av S.look γ φ t o):ROb T w' av' S'.look γ' φ' t o:=by
 cases o with
 | row e xs=>simp only [ROb] at h ⊢;rw [hγ,hφ];exact RIV.mono hp _ _ _ hb h
 | frz e xs=>simp only [ROb] at h ⊢;rw [hγ,hφ];exact ⟨h.1,h.2.1.mono hp,h.2.2⟩
 | mp k e m=>simp only [ROb] at h ⊢;rw [hγ,hφ];exact RIV.mono hp _ _ _ hb h
 | gone k=>simp only [ROb] at h ⊢;rw [hγ,hφ];exact h
 | bld s =>
  simp only [ROb] at h ⊢
  obtain ⟨tb,te,b,p,v,h1,h2,h3,h4⟩:=h
  exact ⟨tb,te,b,p,v,h1,hγ.trans h2,hφ.trans h3,h4.same (hb b (by rw [h3];exact List.mem_cons_self)) fun g hg=>hb g (by rw [h3];simp [hg])⟩
 | box cs =>
  simp only [ROb] at h ⊢
  obtain ⟨b,c,ty,h1,h2,h3,h4⟩:=h
  exact ⟨b,c,ty,by rw [hγ];exact h1,by rw [hφ];exact h2,by rw [hb b (by simp [h2])];exact h3,RAVs.mono hp _ _ (fun u hu=>hc u cs rfl hu) h4⟩
theorem yauy.same {look look':Nat→Option (Ob A)} {t:Nat} (h:look' t = look t) (hg:γ' t = γ t):yauy look γ look' γ' t:=by
 intro o' ho'
 exact ⟨o',h ▸ ho',hg,rfl⟩
theorem Rel.upd (h:Rel T w0 F0 X γ φ av w tmps S) (U:Nat→Prop) (hfr:S'.fr = S.fr) (hp:Pres w av w' av')
  (hsame:∀ t,¬ U t→S'.look t = S.look t∧γ' t = γ t∧φ' t = φ t)
  (hheap:∀ t o,¬ U t→S.look t = some o→∀ b∈φ t,w'.heap[b]? = w.heap[b]?)
  (hcomp:∀ t,U t→occSt t S = true→yauy S.look γ S'.look γ' t)
  (hob:∀ t o,U t→S'.look t = some o→ROb T w' av' S'.look γ' φ' t o)
  (hnd:∀ t o,U t→S'.look t = some o→(φ' t).Nodup)
  (hdisj:∀ t o t' o',U t→S'.look t = some o→S'.look t' = some o'→t≠t'→∀ b∈φ' t,b ∉ φ' t')
  (havs:∀ b,(X b ∨ ∃ t o,S'.look t = some o∧b∈φ' t)→av' b) (havlt:∀ b,av' b→b < w'.heap.size)
  (hfp:∀ t o,U t→S'.look t = some o→∀ b∈φ' t,(b∈F0 ∨ w0.heap.size≤b)∧b < w'.heap.size)
  (hsz:w.heap.size≤w'.heap.size) (hl:Left T w0 w' (·∈F0)):Rel T w0 F0 X γ' φ' av' w' tmps S':=by
 have hcompat:∀ t,occSt t S = true→yauy S.look γ S'.look γ' t:=by
  intro t ht
  by_cases hu:U t
  ·exact hcomp t hu ht
  ·exact yauy.same (hsame t hu).1 (hsame t hu).2.1
 refine ⟨?_,?_,?_,?_,havs,havlt,?_,h.x,hl,h.amb⟩
 ·rw [hfr]
  exact RAVs.mono hp _ _ (fun t ht=>hcompat t (by simp [occSt,ht])) h.fr
 ·intro t o ho
  by_cases hu:U t
  ·exact hob t o hu ho
  ·obtain ⟨h1,h2,h3⟩:=hsame t hu
   rw [h1] at ho
   exact ROb.same hp h3 h2 (hheap t o hu ho) (fun u cs hcs hocc=>hcompat u (yiEy (t':=t) (by rw [ho,hcs]) hocc)) (h.ob t o ho)
 ·intro t o ho
  by_cases hu:U t
  ·exact hnd t o hu ho
  ·obtain ⟨h1,h2,h3⟩:=hsame t hu
   rw [h3];exact h.nd t o (h1 ▸ ho)
 ·intro t o t' o' ho ho' hne b hb hb'
  by_cases hu:U t
  ·exact hdisj t o t' o' hu ho ho' hne b hb hb'
  ·by_cases hu':U t'
   ·exact hdisj t' o' t o hu' ho' ho (Ne.symm hne) b hb' hb
   ·obtain ⟨h1,h2,h3⟩:=hsame t hu
    obtain ⟨h1',h2',h3'⟩:=hsame t' hu'
    rw [h3] at hb;rw [h3'] at hb'
    exact h.disj t o t' o' (h1 ▸ ho) (h1' ▸ ho') hne b hb hb'
 ·intro t o ho b hb
  by_cases hu:U t
  ·exact hfp t o hu ho b hb
  ·obtain ⟨h1,h2,h3⟩:=hsame t hu
   rw [h3] at hb
   obtain ⟨h4,h5⟩:=h.fp t o (h1 ▸ ho) b hb
   exact ⟨h4,Nat.lt_of_lt_of_le h5 hsz⟩
theorem Rel.av_of (h:Rel T w0 F0 X γ φ av w tmps S) {t:Nat} {o:Ob A} (ho:S.look t = some o) {b:Nat} (hb:b∈φ t):av b :=
 h.avs b (.inr ⟨t,o,ho,hb⟩)
theorem Rel.heap (h:Rel T w0 F0 X γ φ av w tmps S) (hh:w'.heap = w.heap) (h1:w'.os = w.os) (h2:ycZy T w w') (h3:w'.output = w.output):Rel T w0 F0 X γ φ av w' tmps S:=by
 refine h.upd (fun _=>False) rfl ?_ (fun t _=>⟨rfl,rfl,rfl⟩) (fun t o _ _ b _=>by rw [hh]) (fun t hf=>hf.elim) (fun t o hf=>hf.elim) (fun t o hf=>hf.elim)
  (fun t o t' o' hf=>hf.elim) h.avs (fun b hb=>by rw [hh];exact h.avlt b hb) (fun t o hf=>hf.elim) (by rw [hh];exact Nat.le_refl _) ?_
 ·intro b o hb ho
  exact ⟨by rw [hh];exact ho,hb⟩
 ·obtain ⟨a,b,c,d,e⟩:=h.left
  exact ⟨h1.trans a,b.trans h2,h3.trans c,by rw [hh];exact d,fun i hi hn=>by rw [hh];exact e i hi hn⟩
theorem Rel.ambNow (h:Rel T w0 F0 X γ φ av w tmps S) {F:List Nat} (hF:∀ b∈F,b∈F0 ∨ w0.heap.size≤b):AmbF T w F:=by
 obtain ⟨h1,h2⟩:=h.amb
 refine ⟨T.ambOk w0 w (fun b hb=>h.left.block b (h2 b hb).1 (h2 b hb).2) h1,fun b hb=>⟨Nat.lt_of_lt_of_le (h2 b hb).1 h.left.size,fun hm=>?_⟩⟩
 rcases hF b hm with hf | hf
 ·exact (h2 b hb).2 hf
 ·exact absurd (h2 b hb).1 (Nat.not_lt.2 hf)
theorem yayy (S:St A) (t:Nat) (o:Option (Ob A)) (u:Nat) :
  St.look { S with st:=S.st.set t o } u = if u = t∧t < S.st.length then o else S.look u:=by
 unfold St.look
 simp only [List.getElem?_set]
 by_cases h:t = u
 ·subst h
  by_cases hl:t < S.st.length
  ·simp [hl]
  ·simp [hl]
 ·have:¬ u = t:=fun e=>h e.symm
  simp [h,this]
theorem ybgy {S:St A} {t:Nat} {o:Ob A} (h:S.look t = some o):t < S.st.length:=by
 unfold St.look at h
 rcases Nat.lt_or_ge t S.st.length with hl | hl
 ·exact hl
 ·simp [List.getElem?_eq_none hl] at h
theorem Rel.drop (h:Rel T w0 F0 X γ φ av w tmps S) (t:Nat):Rel T w0 F0 X γ φ av w tmps { S with st:=S.st.set t none }:=by
 have hl:∀ u,St.look { S with st:=S.st.set t none } u = if u = t then none else S.look u:=by
  intro u
  rw [yayy]
  by_cases hu:u = t
  ·subst hu
   by_cases hlt:u < S.st.length
   ·simp [hlt]
   ·simp [hlt,St.look]
  ·simp [hu]
 refine h.upd (fun u=>u = t) rfl (Pres.refl _ _) ?_ (fun _ _ _ _ _ _=>rfl) ?_ ?_ ?_ ?_ ?_ h.avlt ?_ (Nat.le_refl _) h.left
 ·intro u hu;exact ⟨by rw [hl,if_neg hu],rfl,rfl⟩
 ·intro u hu _ o' ho';rw [hl,if_pos hu] at ho';cases ho'
 ·intro u o hu ho;rw [hl,if_pos hu] at ho;cases ho
 ·intro u o hu ho;rw [hl,if_pos hu] at ho;cases ho
 ·intro u o _ _ hu ho;rw [hl,if_pos hu] at ho;cases ho
 ·rintro b (hx | ⟨u,o,ho,hm⟩)
  ·exact h.avs b (.inl hx)
  ·rw [hl] at ho
   by_cases hu:u = t
   ·simp [hu] at ho
   ·rw [if_neg hu] at ho;exact h.avs b (.inr ⟨u,o,ho,hm⟩)
 ·intro u o hu ho;rw [hl,if_pos hu] at ho;cases ho
theorem Rel.freeze (h:Rel T w0 F0 X γ φ av w tmps S) {t e:Nat} {xs:List (A e)} (ho:S.look t = some (.row e xs)) :
  ∃ φ' av',Rel T w0 F0 X γ φ' av' w tmps { S with st:=S.st.set t (some (.frz e xs)) }∧DR T w av' (.sl e xs) (γ t)∧(∀ b,av' b→av b)∧(∀ b,¬ av b→¬ av' b) ∧
   (∀ u,u≠t→φ' u = φ u)∧(∀ b,av b→b ∉ φ t→av' b):=by
 have hlt:=ybgy ho
 have hl:∀ u,St.look { S with st:=S.st.set t (some (.frz e xs)) } u = if u = t then some (.frz e xs) else S.look u:=by
  intro u;rw [yayy];by_cases hu:u = t <;> simp [hu,hlt]
 let φ':Nat→List Nat:=fun u=>if u = t then [] else φ u
 let av':Nat→Prop:=fun b=>av b∧b ∉ φ t
 have hsub:∀ b,av' b→av b:=fun b hb=>hb.1
 have hnot:∀ b∈φ t,¬ av' b:=fun b hb hx=>hx.2 hb
 have hpres:Pres w av w av':=fun b o hb ho=>⟨ho,fun hx=>hb (hsub b hx)⟩
 have hrow:=h.ob t _ ho
 simp only [ROb,RIV] at hrow
 obtain ⟨ob,hφ,hs,hr⟩:=hrow
 have hdr:DR T w av' (.sl e xs) (γ t)∧(xs = [] ∨ ∃ b n cap,γ t = .slice (some ⟨b,0,none⟩) n cap):=by
  cases ob with
  | none =>
   simp only [OwnSl] at hs
   obtain ⟨hn,hv⟩:=hs
   have hx:xs = []:=List.eq_nil_of_length_eq_zero hn
   subst hx
   exact ⟨⟨1,by simp only [DRep];exact ⟨none,0,hv,.inl rfl,Nat.le_refl _,fun hne=>absurd rfl hne⟩⟩,.inl rfl⟩
  | some b =>
   simp only [OwnSl] at hs
   obtain ⟨cap,c,ty,hv,hle,hc,hsz⟩:=hs
   obtain ⟨c',ty',hc',hrow⟩:=hr b rfl
   rw [hc] at hc'
   cases hc'
   refine ⟨?_,.inr ⟨b,_,_,hv⟩⟩
   have hex:∀ (m:Nat),∃ N,∀ i x,i < m→xs[i]? = some x→∀ j d,(T.enc e x)[j]? = some d→∃ u,c[i * T.size e + j]? = some u∧DRep T w av' N d u:=by
    intro m
    induction m with
    | zero=>exact ⟨0,fun i x hi=>absurd hi (Nat.not_lt_zero _)⟩
    | succ m ih =>
     obtain ⟨N,hN⟩:=ih
     cases hx:xs[m]? with
     | none =>
      refine ⟨N,fun i x hi hix=>?_⟩
      rcases Nat.lt_succ_iff_lt_or_eq.1 hi with hi | rfl
      ·exact hN i x hi hix
      ·rw [hx] at hix;cases hix
     | some y =>
      have hin:∀ (q:Nat),∃ M,∀ j d,j < q→(T.enc e y)[j]? = some d→∃ u,c[m * T.size e + j]? = some u∧DRep T w av' M d u:=by
       intro q
       induction q with
       | zero=>exact ⟨0,fun j d hj=>absurd hj (Nat.not_lt_zero _)⟩
       | succ q ihq =>
        obtain ⟨M,hM⟩:=ihq
        cases hd:(T.enc e y)[q]? with
        | none =>
         refine ⟨M,fun j d hj hjd=>?_⟩
         rcases Nat.lt_succ_iff_lt_or_eq.1 hj with hj | rfl
         ·exact hM j d hj hjd
         ·rw [hd] at hjd;cases hjd
        | some d0 =>
         obtain ⟨u,hu,n0,hn0⟩:=hrow m y hx q d0 hd
         rw [Nat.zero_add] at hu
         have hn1:DRep T w av' n0 d0 u:=DRep.mono hpres _ _ _ hn0
         refine ⟨max M n0,fun j d hj hjd=>?_⟩
         rcases Nat.lt_succ_iff_lt_or_eq.1 hj with hj | rfl
         ·obtain ⟨u',hu',hd'⟩:=hM j d hj hjd
          exact ⟨u',hu',hd'.le (Nat.le_max_left _ _)⟩
         ·rw [hd] at hjd;cases hjd
          exact ⟨u,hu,hn1.le (Nat.le_max_right _ _)⟩
      obtain ⟨M,hM⟩:=hin (T.enc e y).length
      refine ⟨max N M,fun i x hi hix j d hjd=>?_⟩
      rcases Nat.lt_succ_iff_lt_or_eq.1 hi with hi | rfl
      ·obtain ⟨u,hu,hd⟩:=hN i x hi hix j d hjd
       exact ⟨u,hu,hd.le (Nat.le_max_left _ _)⟩
      ·rw [hx] at hix;cases hix
       obtain ⟨u,hu,hd⟩:=hM j d (by rcases Nat.lt_or_ge j (T.enc e y).length with hj | hj;exact hj;rw [List.getElem?_eq_none hj] at hjd;cases hjd) hjd
       exact ⟨u,hu,hd.le (Nat.le_max_right _ _)⟩
   obtain ⟨N,hN⟩:=hex xs.length
   refine ⟨N + 1,?_⟩
   simp only [DRep]
   refine ⟨some ⟨b,0,none⟩,cap,hv,.inr ⟨_,_,rfl⟩,hle,fun _=>⟨b,0,c,ty,(0,0),rfl,hnot b (by simp [hφ]),hc,fun i x hix j d hjd=>?_⟩⟩
   rw [Nat.zero_add]
   exact hN i x (by rcases Nat.lt_or_ge i xs.length with hj | hj;exact hj;rw [List.getElem?_eq_none hj] at hix;cases hix) hix j d hjd
 refine ⟨φ',av',h.upd (fun u=>u = t) rfl hpres ?_ (fun _ _ _ _ _ _=>rfl) ?_ ?_ ?_ ?_ ?_ (fun b hb=>h.avlt b hb.1) ?_ (Nat.le_refl _) h.left,hdr.1,hsub,fun b hb hx=>hb (hsub b hx),fun u hu=>by simp [φ',hu],fun b hb hn=>⟨hb,hn⟩⟩
 ·intro u hu;exact ⟨by rw [hl,if_neg hu],rfl,by simp [φ',hu]⟩
 ·intro u hu _ o' ho'
  rw [hl,if_pos hu] at ho'
  cases ho'
  exact ⟨.row e xs,by rw [hu];exact ho,rfl,rfl⟩
 ·intro u o hu ho'
  rw [hl,if_pos hu] at ho'
  cases ho'
  subst hu
  exact ⟨by simp [φ'],hdr.1,hdr.2⟩
 ·intro u o hu _;simp [φ',hu]
 ·intro u o u' o' hu _ _ _ b hb;simp [φ',hu] at hb
 ·rintro b (hx | ⟨u,o,ho',hm⟩)
  ·refine ⟨h.avs b (.inl hx),fun hb=>?_⟩
   have h1:=h.fp t _ ho b hb
   have h2:=h.x b hx
   rcases h1.1 with h3 | h3
   ·exact h2.2 h3
   ·exact absurd h2.1 (Nat.not_lt.2 h3)
  ·by_cases hu:u = t
   ·simp [φ',hu] at hm
   ·rw [hl,if_neg hu] at ho';simp [φ',hu] at hm
    exact ⟨h.avs b (.inr ⟨u,o,ho',hm⟩),fun hb=>h.disj u o t _ ho' ho hu b hm hb⟩
 ·intro u o hu _ b hb;simp [φ',hu] at hb
theorem Rel.new (h:Rel T w0 F0 X γ φ av w tmps S) {t:Nat} (hlt:t < S.st.length) (hno:S.look t = none) (hocc:occSt t S = false) (o:Ob A) (v:Value) (ob:Option Nat)
  (hsz:w.heap.size≤w'.heap.size) (hold:∀ b,b < w.heap.size→w'.heap[b]? = w.heap[b]?) (hos:w'.os = w.os) (htape:ycZy T w w') (hout:w'.output = w.output)
  (hob:∀ b,ob = some b→w.heap.size≤b∧b < w'.heap.size)
  (ho:∀ av',(∀ b,av' b ↔ av b ∨ ob = some b)→Pres w av w' av'→∀ γ' φ',γ' t = v→φ' t = ob.toList→(∀ u,u≠t→γ' u = γ u) →
   ROb T w' av' (St.look { S with st:=S.st.set t (some o) }) γ' φ' t o) :
  ∃ γ' φ' av',Rel T w0 F0 X γ' φ' av' w' tmps { S with st:=S.st.set t (some o) }∧γ' t = v∧φ' t = ob.toList∧(∀ u,u≠t→γ' u = γ u)∧(∀ u,u≠t→φ' u = φ u)∧Pres w av w' av':=by
 have hl:∀ u,St.look { S with st:=S.st.set t (some o) } u = if u = t then some o else S.look u:=by
  intro u;rw [yayy];by_cases hu:u = t <;> simp [hu,hlt]
 let γ':Nat→Value:=fun u=>if u = t then v else γ u
 let φ':Nat→List Nat:=fun u=>if u = t then ob.toList else φ u
 let av':Nat→Prop:=fun b=>av b ∨ ob = some b
 have hpres:Pres w av w' av':=by
  intro b o hb ho
  have hlt:b < w.heap.size:=by
   rcases Nat.lt_or_ge b w.heap.size with h | h
   ·exact h
   ·simp [Array.getElem?_eq_none h] at ho
  refine ⟨by rw [hold b hlt];exact ho,?_⟩
  rintro (hx | hx)
  ·exact hb hx
  ·exact absurd hlt (Nat.not_lt.2 (hob b hx).1)
 have hγt:γ' t = v:=by simp [γ']
 have hφt:φ' t = ob.toList:=by simp [φ']
 have hγn:∀ u,u≠t→γ' u = γ u:=fun u hu=>by simp [γ',hu]
 have hφn:∀ u,u≠t→φ' u = φ u:=fun u hu=>by simp [φ',hu]
 refine ⟨γ',φ',av',?_,hγt,hφt,hγn,hφn,hpres⟩
 have hnew:∀ b∈φ' t,w.heap.size≤b∧b < w'.heap.size:=by
  intro b hb
  rw [hφt] at hb
  exact hob b (by simpa using hb)
 refine h.upd (fun u=>u = t) rfl hpres ?_ ?_ ?_ ?_ ?_ ?_ ?_ ?_ ?_ hsz ?_
 ·intro u hu;exact ⟨by rw [hl,if_neg hu],hγn u hu,hφn u hu⟩
 ·intro u o hu ho b hb;exact hold b (h.fp u o ho b hb).2
 ·intro u hu hocc';subst hu;rw [hocc] at hocc';cases hocc'
 ·intro u o' hu ho'
  subst hu
  rw [hl,if_pos rfl] at ho'
  cases ho'
  exact ho av' (fun b=>Iff.rfl) hpres γ' φ' hγt hφt hγn
 ·intro u o' hu _
  subst hu
  rw [hφt];cases ob <;> simp
 ·intro u o' u' o'' hu _ ho'' hne b hb hb'
  subst hu
  rw [hφn u' (Ne.symm hne)] at hb'
  rw [hl,if_neg (Ne.symm hne)] at ho''
  exact absurd (h.fp u' _ ho'' b hb').2 (Nat.not_lt.2 (hnew b hb).1)
 ·rintro b (hx | ⟨u,o',ho',hm⟩)
  ·exact .inl (h.avs b (.inl hx))
  ·by_cases hu:u = t
   ·subst hu;rw [hφt] at hm;exact .inr (by simpa using hm)
   ·rw [hl,if_neg hu] at ho';rw [hφn u hu] at hm
    exact .inl (h.avs b (.inr ⟨u,o',ho',hm⟩))
 ·rintro b (hb | hb)
  ·exact Nat.lt_of_lt_of_le (h.avlt b hb) hsz
  ·exact (hob b hb).2
 ·intro u o' hu _ b hb
  subst hu
  obtain ⟨h1,h2⟩:=hnew b hb
  exact ⟨.inr (Nat.le_trans h.left.size h1),h2⟩
 ·obtain ⟨a,b,c,d,e⟩:=h.left
  exact ⟨hos.trans a,b.trans htape,hout.trans c,Nat.le_trans d hsz,fun i hi hn=>(hold i (Nat.lt_of_lt_of_le hi d)).trans (e i hi hn)⟩
theorem Rel.turn (h:Rel T w0 F0 X γ φ av w tmps S) {t0 t:Nat} {o0:Ob A} (h0:S.look t0 = some o0) (hlt:t < S.st.length) (ht:t≠t0→S.look t = none∧occSt t S = false)
  (o:Ob A) (v:Value) (hv:t = t0→v = γ t0∧o.kind = o0.kind)
  (hother:∀ b,b ∉ φ t0→w'.heap[b]? = w.heap[b]?) (hsize:w'.heap.size = w.heap.size) (hos:w'.os = w.os) (htape:ycZy T w w') (hout:w'.output = w.output)
  (ho:∀ γ' φ',Pres w av w' av→γ' t = v→φ' t = φ t0→(∀ u,u≠t→γ' u = γ u)→(∀ u,occSt u S = true→yauy S.look γ (St.look { S with st:=(S.st.set t0 none).set t (some o) }) γ' u) →
   ROb T w' av (St.look { S with st:=(S.st.set t0 none).set t (some o) }) γ' φ' t o) :
  ∃ γ' φ',Rel T w0 F0 X γ' φ' av w' tmps { S with st:=(S.st.set t0 none).set t (some o) }∧γ' t = v∧φ' t = φ t0∧(∀ u,u≠t→γ' u = γ u)∧Pres w av w' av:=by
 have hlt0:=ybgy h0
 have hl:∀ u,St.look { S with st:=(S.st.set t0 none).set t (some o) } u = if u = t then some o else if u = t0 then none else S.look u:=by
  intro u
  have h1:=yayy { S with st:=S.st.set t0 none } t (some o) u
  rw [h1,yayy]
  by_cases hu:u = t <;> by_cases hu0:u = t0 <;> simp [hu,hu0,hlt,hlt0]
 let γ':Nat→Value:=fun u=>if u = t then v else γ u
 let φ':Nat→List Nat:=fun u=>if u = t then φ t0 else φ u
 have hγn:∀ u,u≠t→γ' u = γ u:=fun u hu=>by simp [γ',hu]
 have hφn:∀ u,u≠t→φ' u = φ u:=fun u hu=>by simp [φ',hu]
 have hγt:γ' t = v:=by simp [γ']
 have hφt:φ' t = φ t0:=by simp [φ']
 have hpres:Pres w av w' av:=by
  intro b o hb ho
  exact ⟨by rw [hother b (fun hm=>hb (h.av_of h0 hm))];exact ho,hb⟩
 have hcompat:∀ u,occSt u S = true→yauy S.look γ (St.look { S with st:=(S.st.set t0 none).set t (some o) }) γ' u:=by
  intro u hu o' ho'
  rw [hl] at ho'
  by_cases hut:u = t
  ·subst hut
   rw [if_pos rfl] at ho'
   cases ho'
   by_cases htt:u = t0
   ·subst htt
    exact ⟨o0,h0,by rw [hγt];exact (hv rfl).1,(hv rfl).2⟩
   ·rw [(ht htt).2] at hu;cases hu
  ·rw [if_neg hut] at ho'
   by_cases hu0:u = t0
   ·simp [hu0] at ho'
   ·rw [if_neg hu0] at ho'
    exact ⟨o',ho',hγn u hut,rfl⟩
 refine ⟨γ',φ',?_,hγt,hφt,hγn,hpres⟩
 refine h.upd (fun u=>u = t ∨ u = t0) rfl hpres ?_ ?_ (fun u _ hu=>hcompat u hu) ?_ ?_ ?_ ?_ ?_ ?_ (Nat.le_of_eq hsize.symm) ?_
 ·intro u hu
  have h1:u≠t:=fun e=>hu (.inl e)
  have h2:u≠t0:=fun e=>hu (.inr e)
  exact ⟨by rw [hl,if_neg h1,if_neg h2],hγn u h1,hφn u h1⟩
 ·intro u o' hu ho' b hb
  refine hother b (fun hm=>?_)
  have h2:u≠t0:=fun e=>hu (.inr e)
  exact h.disj u o' t0 o0 ho' h0 h2 b hb hm
 ·intro u o' hu ho'
  rw [hl] at ho'
  by_cases hut:u = t
  ·subst hut
   rw [if_pos rfl] at ho'
   cases ho'
   exact ho γ' φ' hpres hγt hφt hγn hcompat
  ·rw [if_neg hut,if_pos (hu.resolve_left hut)] at ho';cases ho'
 ·intro u o' hu ho'
  rw [hl] at ho'
  by_cases hut:u = t
  ·subst hut;rw [hφt];exact h.nd t0 o0 h0
  ·rw [if_neg hut,if_pos (hu.resolve_left hut)] at ho';cases ho'
 ·intro u o' u' o'' hu ho' ho'' hne b hb hb'
  rw [hl] at ho' ho''
  by_cases hut:u = t
  ·subst hut
   rw [if_neg (Ne.symm hne)] at ho''
   by_cases hu0:u' = t0
   ·simp [hu0] at ho''
   ·rw [if_neg hu0] at ho''
    rw [hφt] at hb
    rw [hφn u' (Ne.symm hne)] at hb'
    exact h.disj u' o'' t0 o0 ho'' h0 hu0 b hb' hb
  ·rw [if_neg hut,if_pos (hu.resolve_left hut)] at ho';cases ho'
 ·rintro b (hx | ⟨u,o',ho',hm⟩)
  ·exact h.avs b (.inl hx)
  ·rw [hl] at ho'
   by_cases hut:u = t
   ·subst hut;rw [hφt] at hm;exact h.avs b (.inr ⟨t0,o0,h0,hm⟩)
   ·rw [if_neg hut] at ho'
    by_cases hu0:u = t0
    ·simp [hu0] at ho'
    ·rw [if_neg hu0] at ho';rw [hφn u hut] at hm;exact h.avs b (.inr ⟨u,o',ho',hm⟩)
 ·intro b hb;rw [hsize];exact h.avlt b hb
 ·intro u o' hu ho' b hb
  rw [hl] at ho'
  by_cases hut:u = t
  ·subst hut
   rw [hφt] at hb
   obtain ⟨h1,h2⟩:=h.fp t0 o0 h0 b hb
   exact ⟨h1,by rw [hsize];exact h2⟩
  ·rw [if_neg hut,if_pos (hu.resolve_left hut)] at ho';cases ho'
 ·obtain ⟨a,b,c,d,e⟩:=h.left
  refine ⟨hos.trans a,b.trans htape,hout.trans c,by rw [hsize];exact d,fun i hi hn=>?_⟩
  rw [hother i (fun hm=>?_)]
  ·exact e i hi hn
  ·rcases (h.fp t0 o0 h0 i hm).1 with h1 | h1
   ·exact hn h1
   ·exact absurd hi (Nat.not_lt.2 h1)
theorem RAVs.set {T:Ty A} {w:World} {av:Nat→Prop} {look:Nat→Option (Ob A)} {γ:Nat→Value}:∀ {xs:List (AV A)} {vs:List Value} {d:Nat} {x:AV A} {v:Value},
  RAVs T w av look γ xs vs→RAV T w av look γ x v→RAVs T w av look γ (xs.set d x) (vs.set d v)
 | [],vs,d,x,v,h,hx=>by simp only [RAVs] at h;subst h;simp [RAVs]
 | y::ys,vs,d,x,v,h,hx=>by
  simp only [RAVs] at h
  obtain ⟨u,us,rfl,h1,h2⟩:=h
  cases d with
  | zero=>simp only [List.set_cons_zero,RAVs];exact ⟨v,us,rfl,hx,h2⟩
  | succ d=>simp only [List.set_cons_succ,RAVs];exact ⟨u,us.set d v,rfl,h1,RAVs.set h2 hx⟩
theorem RAVs.get {T:Ty A} {w:World} {av:Nat→Prop} {look:Nat→Option (Ob A)} {γ:Nat→Value}:∀ {xs:List (AV A)} {vs:List Value} {d:Nat} {x:AV A},
  RAVs T w av look γ xs vs→xs[d]? = some x→∃ v,vs[d]? = some v∧RAV T w av look γ x v
 | [],vs,d,x,h,hx=>by simp at hx
 | y::ys,vs,d,x,h,hx=>by
  simp only [RAVs] at h
  obtain ⟨u,us,rfl,h1,h2⟩:=h
  cases d with
  | zero=>simp at hx;subst hx;exact ⟨u,rfl,h1⟩
  | succ d=>simpa using RAVs.get h2 (by simpa using hx)
theorem RAVs.len {T:Ty A} {w:World} {av:Nat→Prop} {look:Nat→Option (Ob A)} {γ:Nat→Value}:∀ {xs:List (AV A)} {vs:List Value},RAVs T w av look γ xs vs→vs.length = xs.length
 | [],vs,h=>by simp only [RAVs] at h;simp [h]
 | y::ys,vs,h=>by
  simp only [RAVs] at h
  obtain ⟨u,us,rfl,h1,h2⟩:=h
  simp [RAVs.len h2]
theorem RAVs.append {T:Ty A} {w:World} {av:Nat→Prop} {look:Nat→Option (Ob A)} {γ:Nat→Value}:∀ {xs ys:List (AV A)} {vs us:List Value},
  RAVs T w av look γ xs vs→RAVs T w av look γ ys us→RAVs T w av look γ (xs++ys) (vs++us)
 | [],ys,vs,us,h,h'=>by simp only [RAVs] at h;subst h;simpa using h'
 | x::xs,ys,vs,us,h,h'=>by
  simp only [RAVs] at h
  obtain ⟨u,us',rfl,h1,h2⟩:=h
  simp only [List.cons_append,RAVs]
  exact ⟨u,us'++us,rfl,h1,RAVs.append h2 h'⟩
theorem RAVs.take {T:Ty A} {w:World} {av:Nat→Prop} {look:Nat→Option (Ob A)} {γ:Nat→Value}:∀ {xs:List (AV A)} {vs:List Value} (n:Nat),
  RAVs T w av look γ xs vs→RAVs T w av look γ (xs.take n) (vs.take n)
 | [],vs,n,h=>by simp only [RAVs] at h;subst h;simp [RAVs]
 | x::xs,vs,n,h=>by
  simp only [RAVs] at h
  obtain ⟨u,us',rfl,h1,h2⟩:=h
  cases n with
  | zero=>simp [RAVs]
  | succ n=>simp only [List.take_succ_cons,RAVs];exact ⟨u,us'.take n,rfl,h1,RAVs.take n h2⟩
theorem RAVs.drop {T:Ty A} {w:World} {av:Nat→Prop} {look:Nat→Option (Ob A)} {γ:Nat→Value}:∀ {xs:List (AV A)} {vs:List Value} (n:Nat),
  RAVs T w av look γ xs vs→RAVs T w av look γ (xs.drop n) (vs.drop n)
 | [],vs,n,h=>by simp only [RAVs] at h;subst h;simp [RAVs]
 | x::xs,vs,n,h=>by
  simp only [RAVs] at h
  obtain ⟨u,us',rfl,h1,h2⟩:=h
  cases n with
  | zero=>simp only [List.drop_zero,RAVs];exact ⟨u,us',rfl,h1,h2⟩
  | succ n=>simpa using RAVs.drop n h2
theorem RAVs.splice {T:Ty A} {w:World} {av:Nat→Prop} {look:Nat→Option (Ob A)} {γ:Nat→Value} {xs ys:List (AV A)} {vs us:List Value} (off:Nat)
  (h:RAVs T w av look γ xs vs) (h':RAVs T w av look γ ys us):RAVs T w av look γ (splice xs off ys) (splice vs off us):=by
 unfold Am.splice
 rw [h'.len]
 exact (h.take off).append (h'.append (h.drop _))
theorem Rel.put (h:Rel T w0 F0 X γ φ av w tmps S) {x:AV A} {v:Value} (d:Nat) (hx:RAV T w av S.look γ x v) :
  Rel T w0 F0 X γ φ av w (tmps.setIfInBounds d v) { S with fr:=S.fr.set d x }:=by
 refine ⟨?_,h.ob,h.nd,h.disj,h.avs,h.avlt,h.fp,h.x,h.left,h.amb⟩
 have:=RAVs.set (d:=d) h.fr hx
 rw [Array.toList_setIfInBounds]
 exact this
theorem Rel.get (h:Rel T w0 F0 X γ φ av w tmps S) (d:Nat):RAV T w av S.look γ ((S.fr[d]?).getD .undef) (tmps.getD d undef):=by
 cases hx:S.fr[d]? with
 | none=>simp [RAV]
 | some x =>
  obtain ⟨v,hv,hr⟩:=h.fr.get hx
  have:tmps.getD d undef = v:=by
   simp only [Array.getElem?_toList] at hv
   simp [hv]
  simpa [this] using hr
theorem RAV.of_const1 (v:Value) (look:Nat→Option (Ob A)):RAV T w av look γ (const1 v) v:=by
 unfold Am.const1
 split <;> simp [RAV,DR,DRep]
 rename_i h1 h2
 cases v <;> first | rfl | exact absurd rfl (h1 _) | exact absurd rfl (h2 _)
theorem RAVs.of_const1 (look:Nat→Option (Ob A)):∀ (l:List Value),RAVs T w av look γ (l.map Am.const1) l
 | []=>by simp [RAVs]
 | x::xs=>by simp only [List.map_cons,RAVs];exact ⟨x,xs,rfl,RAV.of_const1 _ _,RAVs.of_const1 look xs⟩
theorem RAV.of_constAV (v:Value) (look:Nat→Option (Ob A)):RAV T w av look γ (constAV v) v:=by
 unfold Am.constAV
 split
 ·rename_i cs
  simp only [RAV]
  exact ⟨cs,rfl,RAVs.of_const1 _ _⟩
 ·exact RAV.of_const1 _ _
theorem Rel.eval (h:Rel T w0 F0 X γ φ av w tmps S) (ds:List Deferred) (x:Operand):RAV T w av S.look γ (yafy S.fr x) (Act.eval ⟨tmps,ds⟩ x):=by
 cases x with
 | tmp t=>exact h.get t
 | const v=>exact RAV.of_constAV v _
 | global g=>simp [yafy,RAV]
 | func f=>simp only [yafy,RAV,Act.eval];exact ⟨#[],rfl,by simp [RAVs]⟩
end Go.Am
