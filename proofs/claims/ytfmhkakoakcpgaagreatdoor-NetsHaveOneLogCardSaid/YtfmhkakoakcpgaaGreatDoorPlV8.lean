/- The plain law, in Lean alone: V8, V9. No condition: lemmas for the claim. -/
import Derived.Test.YtfmhkakoakcpgaaGreatDoorPlV6
set_option linter.unusedVariables false
set_option linter.unusedSectionVars false
set_option linter.unusedSimpArgs false
set_option maxRecDepth 100000
namespace Go.Am
open Go Go.Proofs
variable [Fuel]
theorem yhdy (d:List G_Deed) (hl:d.length≤1000):∀ (xs:List G_Deed) (n i:Nat) (b:Int) (s:G_Stream) (p q:List G_Deed),d.drop i = xs→xs.length < n→SOk b s→b + (xs.length:Int)≤1000000→p.length≤i→q.length≤i →
  ∃ (P Q:List G_Deed) (s':G_Stream),P.Sublist xs∧Q.Sublist xs∧(∀ y ∈ xs,y ∈ P ∨ y ∈ Q)∧∀ (R:Type) (e0:G_Stream→List G_Deed→List G_Deed→Option R),z32z_L3 ygTy n d (d.length:Int) (i:Int) s p q e0 = e0 s' (p ++ P) (q ++ Q)
 | _,0,_,_,_,_,_,_,h,_,_,_,_=>by omega
 | [],n + 1,i,b,s,p,q,h,_,hs,hb,hp,hq=>⟨[],[],s,.slnil,.slnil,fun y h=>(by cases h),fun R e0=>by rw [z32z_L3,yaOy h,List.append_nil,List.append_nil]; rfl⟩
 | c :: cs,n + 1,i,b,s,p,q,h,hn,hs,hb,hp,hq=>by
  have h':=yapy h
  simp only [List.length_cons] at hb hn
  obtain ⟨t,s1,t1,t2,z1,e1⟩:=z41z_gives hs 3 (by omega) (by omega)
  have g1:∀ (R:Type) (k:Int→G_Stream→Option R),ygTy.z41z s 3 k = k t s1:=e1
  have rp:=room1 p c 176 (show p.length≤1000000 by omega) (by omega)
  have rq:=room1 q c 176 (show q.length≤1000000 by omega) (by omega)
  have hw:=yary (show i < 4611686018427387904 by omega)
  by_cases c0:t = 0
  ·subst c0
   obtain ⟨P,Q,s',a1,a2,a3,a4⟩:=yhdy d hl cs n (i + 1) (b + 1) s1 (p ++ [c]) q h'.2.2.1 (by omega) z1 (by omega) (by simp; omega) (by omega)
   refine ⟨c :: P,Q,s',a1.cons_cons c,a2.cons c,fun y hy=>?_,fun R e0=>?_⟩
   ·rcases List.mem_cons.1 hy with rfl | hy
    ·exact .inl (by simp)
    ·rcases a3 y hy with h | h
     ·exact .inl (by simp [h])
     ·exact .inr h
   ·rw [z32z_L3,yaAy h,cond_true,yaZy h,g1,beq_self_eq_true,cond_true,rp,cond_true,hw,a4,List.append_assoc]; rfl
  ·by_cases c1:t = 1
   ·subst c1
    obtain ⟨P,Q,s',a1,a2,a3,a4⟩:=yhdy d hl cs n (i + 1) (b + 1) s1 p (q ++ [c]) h'.2.2.1 (by omega) z1 (by omega) (by omega) (by simp; omega)
    refine ⟨P,c :: Q,s',a1.cons c,a2.cons_cons c,fun y hy=>?_,fun R e0=>?_⟩
    ·rcases List.mem_cons.1 hy with rfl | hy
     ·exact .inr (by simp)
     ·rcases a3 y hy with h | h
      ·exact .inl h
      ·exact .inr (by simp [h])
    ·rw [z32z_L3,yaAy h,cond_true,yaZy h,g1,show ((1:Int) == 0) = false from rfl,cond_false,beq_self_eq_true,cond_true,rq,cond_true,hw,a4,List.append_assoc]; rfl
   ·obtain ⟨P,Q,s',a1,a2,a3,a4⟩:=yhdy d hl cs n (i + 1) (b + 1) s1 (p ++ [c]) (q ++ [c]) h'.2.2.1 (by omega) z1 (by omega) (by simp; omega) (by simp; omega)
    refine ⟨c :: P,c :: Q,s',a1.cons_cons c,a2.cons_cons c,fun y hy=>?_,fun R e0=>?_⟩
    ·rcases List.mem_cons.1 hy with rfl | hy
     ·exact .inl (by simp)
     ·rcases a3 y hy with h | h
      ·exact .inl (by simp [h])
      ·exact .inr (by simp [h])
    ·rw [z32z_L3,yaAy h,cond_true,yaZy h,g1,beq_eq_false_iff_ne.2 c0,cond_false,beq_eq_false_iff_ne.2 c1,cond_false,rp,cond_true,rq,cond_true,hw,a4,List.append_assoc,List.append_assoc]; rfl
theorem yxcy {d:List G_Deed} (hl:d.length≤1000) {b:Int} {s:G_Stream} (hs:SOk b s) (hb:b≤900000):∃ (P Q:List G_Deed) (s':G_Stream),P.Sublist d∧Q.Sublist d∧(∀ y ∈ d,y ∈ P ∨ y ∈ Q)∧∀ (R:Type) (k:List G_Deed→List G_Deed→G_Stream→Option R),z32z s d k = k P Q s':=by
 obtain ⟨P,Q,s',a1,a2,a3,a4⟩:=yhdy d hl d NN 0 b s [] [] rfl (by have:=NN_ok; omega) hs (by omega) (by simp) (by simp)
 exact ⟨P,Q,s',a1,a2,a3,fun R k=>a4 R _⟩
theorem yHsy {x:List G_Deed} (h:RightD x) {a b:G_Deed} (ha:a ∈ x) (hb:b ∈ x) (e:ownD a = ownD b):a = b:=by
 obtain ⟨i,hi,rfl⟩:=List.mem_iff_getElem.1 ha
 obtain ⟨j,hj,rfl⟩:=List.mem_iff_getElem.1 hb
 have hp:=List.pairwise_iff_getElem.1 h.own
 rcases Nat.lt_trichotomy i j with hij | hij | hij
 ·exact absurd e (hp i j hi hj hij)
 ·subst hij; rfl
 ·exact absurd e.symm (hp j i hj hi hij)
theorem yhZy {x:List G_Deed} (hx:RightD x) (d:List G_Deed) (hl:d.length≤1000) (hd:∀ c ∈ d,c ∈ x):∀ (xs:List G_Deed) (n i:Nat) (m:List (G_net_own×G_Deed)) (out:List G_Deed),d.drop i = xs→xs.length < n→out.length≤i→i≤d.length →
  (∀ w v,yany w m = some v→v ∈ out∧ownD v = w)→(∀ c ∈ out,yany (ownD c) m = some c)→out.Pairwise (fun a b=>ownD a ≠ ownD b)→(∀ c ∈ out,c ∈ x) →
  ∃ r:List G_Deed,r.length≤d.length∧r.Pairwise (fun a b=>ownD a ≠ ownD b)∧(∀ c ∈ r,c ∈ x)∧(∀ c ∈ out,c ∈ r)∧(∀ c ∈ xs,c ∈ r)∧∀ (R:Type) (e0:Int→List G_Deed→Option R) (e1:List G_Deed→Option R),
   ybwy yaTy n (d.length:Int) (i:Int) m d out e0 e1 = e1 r
 | _,0,_,_,_,_,h,_,_,_,_,_,_=>by omega
 | [],n + 1,i,m,out,h,_,ho,hi,i1,i2,i3,i5=>⟨out,by omega,i3,i5,fun c h=>h,fun c h=>(by cases h),fun R e0 e1=>by rw [ybwy,yaOy h]; rfl⟩
 | c :: cs,n + 1,i,m,out,h,hn,ho,hi,i1,i2,i3,i5=>by
  have h':=yapy h
  have hcx:=hd c (ybNy h)
  have hn':cs.length < n:=Nat.lt_of_succ_lt_succ (by simpa only [List.length_cons] using hn)
  have hw:=yary (show i < 4611686018427387904 by omega)
  cases hq:yany ⟨c.f_Site,c.f_No⟩ m with
  | none =>
   have hne:∀ a ∈ out,ownD a ≠ ownD c:=fun a ha e=>by
    have:=i2 a ha
    rw [e] at this
    have hq':yany (ownD c) m = none:=hq
    rw [hq'] at this
    cases this
   have hg:∀ w,yany w (ybsy (ownD c) c m) = bif yaDy w (ownD c) then some c else yany w m:=fun w=>by
    rw [yfXy,ylzy,ydyy ybOy]
   obtain ⟨r,g1,g2,g3,g4,g5,g6⟩:=yhZy hx d hl hd cs n (i + 1) (ybsy (ownD c) c m) (out ++ [c]) h'.2.2.1 hn' (by simp; omega) h'.2.1
    (fun w v hv=>by
     rw [hg] at hv
     cases hk:yaDy w (ownD c) with
     | true =>
      rw [hk] at hv
      have:=Option.some.inj hv
      subst this
      exact ⟨by simp,((ybOy _ _).1 hk).symm⟩
     | false =>
      rw [hk] at hv
      obtain ⟨a1,a2⟩:=i1 w v hv
      exact ⟨by simp [a1],a2⟩)
    (fun a ha=>by
     rw [hg]
     rcases List.mem_append.1 ha with ha | ha
     ·have:yaDy (ownD a) (ownD c) = false:=by
       cases hk:yaDy (ownD a) (ownD c) with
       | false=>rfl
       | true=>exact absurd ((ybOy _ _).1 hk) (hne a ha)
      rw [this]; exact i2 a ha
     ·rw [List.mem_singleton] at ha
      rw [ha,(ybOy _ _).2 rfl]; rfl)
    (List.pairwise_append.2 ⟨i3,List.pairwise_singleton _ _,fun a ha b hb=>by rw [List.mem_singleton] at hb; rw [hb]; exact hne a ha⟩)
    (fun a ha=>by
     rcases List.mem_append.1 ha with ha | ha
     ·exact i5 a ha
     ·rw [List.mem_singleton] at ha; rw [ha]; exact hcx)
   refine ⟨r,g1,g2,g3,fun a ha=>g4 a (by simp [ha]),fun a ha=>?_,fun R e0 e1=>?_⟩
   ·rcases List.mem_cons.1 ha with rfl | ha
    ·exact g4 a (by simp)
    ·exact g5 a ha
   ·rw [ybwy,yaAy h,cond_true,yb1y h,ycpy h,hq]
    simp only [Option.isSome_none,Bool.not_false,cond_true,room1 out c 176 (show out.length≤1000000 by omega) (by omega),hw]
    exact g6 R e0 e1
  | some v =>
   obtain ⟨a1,a2⟩:=i1 _ v hq
   have hvc:v = c:=yHsy hx (i5 v a1) hcx a2
   subst hvc
   obtain ⟨r,g1,g2,g3,g4,g5,g6⟩:=yhZy hx d hl hd cs n (i + 1) m out h'.2.2.1 hn' (by omega) h'.2.1 i1 i2 i3 i5
   refine ⟨r,g1,g2,g3,g4,fun a ha=>?_,fun R e0 e1=>?_⟩
   ·rcases List.mem_cons.1 ha with rfl | ha
    ·exact g4 a a1
    ·exact g5 a ha
   ·have he:ya0y ⟨v.f_Site,v.f_No,v.f_At,v.f_Kind,v.f_Contact,v.f_Band,v.f_Of,v.f_Other⟩ v = true:=(ycMy _ _).2 rfl
    rw [ybwy,yaAy h,cond_true,yb1y h,ycpy h,hq]
    show (bif !(ya0y ⟨v.f_Site,v.f_No,v.f_At,v.f_Kind,v.f_Contact,v.f_Band,v.f_Of,v.f_Other⟩ v) then _ else _) = _
    rw [he,Bool.not_true,cond_false,hw]
    exact g6 R e0 e1
theorem yEAy {a b:G_Deed} (h:cmpD a b = 0):ownD a = ownD b:=by
 unfold cmpD at h
 rw [ytEy] at h
 simp only [List.mem_cons,List.not_mem_nil,or_false,forall_eq_or_imp,forall_eq,ymly,yhoy] at h
 unfold ownD
 rw [h.2.1,h.2.2]
theorem yqjy {x p q:List G_Deed} (hx:RightD x) (hp:p.Sublist x) (hq:q.Sublist x) (hl:x.length≤400) (hc:∀ y ∈ x,y ∈ p ∨ y ∈ q) (R:Type) (k:List G_Deed→Int→Option R):net_Merge q p k = k x 0:=by
 have lp:=hp.length_le
 have lq:=hq.length_le
 have ca:∀ k:Int→Option R,yaTy.z13z q k = k 0:=fun k=>z13z_right (hx.sub hq) (by omega) R k
 have cb:∀ k:Int→Option R,yaTy.z13z p k = k 0:=fun k=>z13z_right (hx.sub hp) (by omega) R k
 have hloop:∀ (e0:List G_Deed→List G_Deed→Int→Option R) (e1:List G_Deed→List G_Deed→Option R),ybHy yaTy NN q p ([q,p].length:Int) 0 [q,p] e0 e1 = e1 q p:=fun e0 e1=>by
  obtain ⟨m,e,hm⟩:=yzty
  obtain ⟨m,rfl⟩:∃ q,m = q + 2:=⟨m - 2,by omega⟩
  have w1:w64 (0 + 1) = ((1:Nat):Int):=yaGy (by omega) (by omega)
  have w2:w64 (((1:Nat):Int) + 1) = ((2:Nat):Int):=by rw [yaGy (by omega) (by omega)]; rfl
  have i0:∀ {R:Type} (k:Option R),inr [q,p] 0 k = k:=fun k=>ybLy (i:=0) (by simp) k
  have a0:∀ {R:Type} (k:List G_Deed→Option R),at_ [q,p] 0 k = k q:=fun k=>ybTy (i:=0) rfl k
  have i1:∀ {R:Type} (k:Option R),inr [q,p] ((1:Nat):Int) k = k:=fun k=>ybLy (i:=1) (by simp) k
  have a1:∀ {R:Type} (k:List G_Deed→Option R),at_ [q,p] ((1:Nat):Int) k = k p:=fun k=>ybTy (i:=1) rfl k
  have d0:decide ((0:Int) < ([q,p].length:Int)) = true:=rfl
  have d1:decide (((1:Nat):Int) < ([q,p].length:Int)) = true:=rfl
  have d2:decide (((2:Nat):Int) < ([q,p].length:Int)) = false:=rfl
  rw [show (NN:Nat) = m + 2 + 1 from e,ybHy,d0,cond_true,i0,a0,ca,bne_self_eq_false,cond_false,w1,ybHy,d1,cond_true,i1,a1,cb,bne_self_eq_false,cond_false,w2,ybHy,d2,cond_false]
 obtain ⟨r,g1,g2,g3,g4,g5,g6⟩:=yhZy hx (q ++ p) (by simp; omega) (fun c h=>by
   rcases List.mem_append.1 h with h | h
   ·exact hq.subset h
   ·exact hp.subset h) (q ++ p) NN 0 [] [] rfl (by simp; have:=NN_ok; omega) (by simp) (by simp) (fun w v h=>by rw [yfXy] at h; cases h) (fun c h=>by cases h) .nil (fun c h=>by cases h)
 have hr:r.length≤1000:=by simp at g1; omega
 obtain ⟨ys,y1,y2,y3⟩:=yfLy (call:=@z43z _) (xs:=r) (c:=cmpD) (by omega) (fun x _ y _=>z43z_is x y) (yeJy.pre _)
 have ystrict:ys.Pairwise fun a b=>cmpD a b < 0:=by
  have hown:ys.Pairwise fun a b=>ownD a ≠ ownD b:=(y1.pairwise_iff (fun {a b} h e=>h e.symm)).2 g2
  refine (y2.and hown).imp fun {a b} h=>?_
  rcases Int.lt_or_eq_of_le h.1 with t | t
  ·exact t
  ·exact absurd (yEAy t) h.2
 have hyx:ys = x:=ypzy yeJy ystrict hx.ord fun a=>by
  rw [y1.mem_iff]
  constructor
  ·exact g3 a
  ·intro ha
   refine g5 a (List.mem_append.2 ?_)
   rcases hc a ha with h | h
   ·exact .inr h
   ·exact .inl h
 have cc:∀ k:List G_Deed→Option R,yaTy.z11z [q,p] k = k (q ++ p):=fun k=>yGIy (by omega) (by omega) R k
 have cs:∀ k:List G_Deed→Option R,yaTy.z40z r k = k x:=fun k=>by rw [← hyx]; exact y3 R k
 show ybHy yaTy NN q p ([q,p].length:Int) 0 [q,p] _ _ = _
 refine (hloop _ _).trans ?_
 rw [cc]
 refine (g6 R _ _).trans ?_
 rw [decide_eq_false (show ¬ ((r.length:Int) > 2000) by omega),cond_false,cs]
end Go.Am
set_option linter.unusedVariables false
set_option linter.unusedSectionVars false
set_option linter.unusedSimpArgs false
set_option maxRecDepth 100000
namespace Go.Am
open Go Go.Proofs
variable [Fuel]
def isLog (d:List G_Deed) (j:Int):Bool:=(d[j.toNat]?).any fun x=>x.f_Kind == 1
def ycIy (d:List G_Deed) (js:List Int):Nat:=(js.filter (isLog d)).length
theorem yz4y (d:List G_Deed) (js:List Int) (j:Int):ycIy d (js ++ [j]) = ycIy d js + (bif isLog d j then 1 else 0):=by
 unfold ycIy
 rw [List.filter_append,List.length_append]
 cases h:isLog d j <;> simp [h]
structure StF (d:List G_Deed) (by1:List (G_Contact×G_Deed)) (D:List G_Deed) (C:List G_Contact):Prop where
 i1:∀ w y,yaly w by1 = some y→y ∈ D
 i2:C.Pairwise fun a b=>keyCo a ≠ keyCo b
 i3:∀ c ∈ C,(yaly (keyCo c) by1).isSome = true
 i4:∀ w,(yaly w by1).isSome = true→∃ c ∈ C,keyCo c = w
 i5:∀ c ∈ C,Fine c∧chk c = 0
 i6:∀ y ∈ D,y ∈ d
theorem yFby {d:List G_Deed} (hr:RightD d) {by1:List (G_Contact×G_Deed)} {D:List G_Deed} {C:List G_Contact} (h:StF d by1 D C) {x:G_Deed} (hx:x ∈ d):StF d (byF x by1) (D ++ [x]) (conF x by1 C):=by
 have hD:∀ y ∈ D ++ [x],y ∈ d:=fun y hy=>by
  rcases List.mem_append.1 hy with hy | hy
  ·exact h.i6 y hy
  ·rw [List.mem_singleton] at hy; rw [hy]; exact hx
 unfold byF conF
 cases hk:x.f_Kind == 1 with
 | false=>exact ⟨fun w y hy=>by simp [h.i1 w y hy],h.i2,h.i3,h.i4,h.i5,hD⟩
 | true =>
  simp only [cond_true]
  cases hs:(yaly (keyCo x.f_Contact) by1).isSome with
  | true=>exact ⟨fun w y hy=>by simp [h.i1 w y hy],h.i2,h.i3,h.i4,h.i5,hD⟩
  | false =>
   simp only [cond_false]
   have hg:∀ w,yaly w (yaIy (keyCo x.f_Contact) x by1) = bif yaQy w (keyCo x.f_Contact) then some x else yaly w by1:=fun w=>by
    rw [yfWy,ylEy,ydyy yb9y]
   refine ⟨fun w y hy=>?_,?_,fun c hc=>?_,fun w hw=>?_,fun c hc=>?_,hD⟩
   ·rw [hg] at hy
    cases hq:yaQy w (keyCo x.f_Contact) with
    | true=>rw [hq] at hy; have:=Option.some.inj hy; rw [← this]; simp
    | false=>rw [hq] at hy; simp [h.i1 w y hy]
   ·refine List.pairwise_append.2 ⟨h.i2,List.pairwise_singleton _ _,fun a ha b hb e=>?_⟩
    rw [List.mem_singleton] at hb
    rw [hb] at e
    have:=h.i3 a ha
    rw [e,hs] at this
    cases this
   ·rw [hg]
    cases hq:yaQy (keyCo c) (keyCo x.f_Contact) with
    | true=>rfl
    | false =>
     rcases List.mem_append.1 hc with hc | hc
     ·exact h.i3 c hc
     ·rw [List.mem_singleton] at hc
      rw [hc,(yb9y _ _).2 rfl] at hq
      cases hq
   ·rw [hg] at hw
    cases hq:yaQy w (keyCo x.f_Contact) with
    | true=>exact ⟨x.f_Contact,by simp,((yb9y _ _).1 hq).symm⟩
    | false =>
     rw [hq] at hw
     obtain ⟨c,hc,e⟩:=h.i4 w hw
     exact ⟨c,by simp [hc],e⟩
   ·rcases List.mem_append.1 hc with hc | hc
    ·exact h.i5 c hc
    ·rw [List.mem_singleton] at hc
     rw [hc]
     exact ⟨(hr.fine x hx).con,(ysPy (hr.fine x hx) (hr.good x hx)).2 (by simpa using hk)⟩
theorem ysSy {d:List G_Deed} (hr:RightD d) (hl:d.length≤1000) (js:List Int) (hjl:js.length≤1000) (hj:∀ j ∈ js,0≤j∧j < (d.length:Int)) (S:List (List UInt8)):∀ (xs:List Int) (n i:Nat) (held:List (G_net_own×Bool)) (by1:List (G_Contact×G_Deed)) (D:List G_Deed) (C:List G_Contact) (O:List Int),js.drop i = xs→xs.length < n→i≤js.length→D.length≤i→C.length≤i→O.length≤i→StF d by1 D C→C.length + O.length = ycIy d (js.take i) →
  ∃ (held':List (G_net_own×Bool)) (by':List (G_Contact×G_Deed)) (D':List G_Deed) (C':List G_Contact) (O':List Int),D'.length≤js.length∧C'.length≤js.length∧O'.length≤js.length∧StF d by' D' C'∧C'.length + O'.length = ycIy d js∧∀ (R:Type) (e0:List (G_net_own×Bool)→List (G_Contact×G_Deed)→List G_Deed→List G_Contact→List (List UInt8)→List Int→Option R),
   z16z_L4 ybfy n d (js.length:Int) (i:Int) held by1 js D C S O e0 = e0 held' by' D' C' S O'
 | _,0,_,_,_,_,_,_,_,h,_,_,_,_,_,_=>by omega
 | [],n + 1,i,held,by1,D,C,O,h,_,hi,hD,hC,hO,hF,hc=>⟨held,by1,D,C,O,by omega,by omega,by omega,hF,by rw [hc,List.take_of_length_le (yoQy h)],fun R e0=>by rw [z16z_L4,yaOy h]; rfl⟩
 | j :: ks,n + 1,i,held,by1,D,C,O,h,hn,hi,hD,hC,hO,hF,hcn=>by
  have h':=yapy h
  obtain ⟨j0,j1⟩:=hj j (ybNy h)
  have hx:d[j.toNat]? = some d[j.toNat]:=List.getElem?_eq_getElem (by omega)
  have hxd:=List.mem_of_getElem? hx
  generalize d[j.toNat] = x at hx hxd
  have hCO:(conF x by1 C).length + (othF x by1 O j).length = C.length + O.length + (bif isLog d j then 1 else 0):=by
   unfold conF othF isLog
   rw [hx,Option.any_some]
   cases x.f_Kind == 1 with
   | false=>simp
   | true =>
    simp only [cond_true]
    cases (yaly (keyCo x.f_Contact) by1).isSome <;> simp <;> omega
  have hC':(conF x by1 C).length≤C.length + 1:=by
   unfold conF
   cases x.f_Kind == 1 <;> (try simp) <;> cases (yaly (keyCo x.f_Contact) by1).isSome <;> simp
  have hO':(othF x by1 O j).length≤O.length + 1:=by
   unfold othF
   cases x.f_Kind == 1 <;> (try simp) <;> cases (yaly (keyCo x.f_Contact) by1).isSome <;> simp
  obtain ⟨held',by',D',C',O',g1,g2,g3,g4,g6,g5⟩:=ysSy hr hl js hjl hj S ks n (i + 1) (heldF x held) (byF x by1) (D ++ [x]) (conF x by1 C) (othF x by1 O j) h'.2.2.1 (Nat.lt_of_succ_lt_succ (by simpa only [List.length_cons] using hn)) h'.2.1 (by simp; omega) (by omega) (by omega) (yFby hr hF hxd) (by rw [hCO,ykty h,yz4y,hcn])
  exact ⟨held',by',D',C',O',g1,g2,g3,g4,g6,fun R e0=>by rw [yBmy (by omega) h'.1 j0 hx held by1 S (by omega) (by omega) (by omega),g5]⟩
def siteF (by1:List (G_Contact×G_Deed)) (c:G_Contact):List UInt8:=((yaly (keyCo c) by1).getD ⟨[],0,0,0,⟨0,0,[],[],0,0,[],[]⟩,[],[],0⟩).f_Site
theorem yqIy (C:List G_Contact) (hl:C.length≤1000) (by1:List (G_Contact×G_Deed)) (held:List (G_net_own×Bool)) (D:List G_Deed) (O:List Int):∀ (xs:List G_Contact) (n i:Nat) (S:List (List UInt8)),C.drop i = xs→xs.length < n→S.length≤i→∀ (R:Type) (e0:List (G_net_own×Bool)→List G_Deed→List G_Contact→List (List UInt8)→List Int→Option R),
  z16z_L25 ybfy n (C.length:Int) (i:Int) held by1 D C S O e0 = e0 held D C (S ++ xs.map (siteF by1)) O
 | _,0,_,_,_,h,_,_,_=>by omega
 | [],n + 1,i,S,h,_,hS,R,e0=>by rw [z16z_L25,yaOy h,List.map_nil,List.append_nil]; rfl
 | c :: cs,n + 1,i,S,h,hn,hS,R,e0=>by
  have h':=yapy h
  have hk:∀ (k:G_Contact→Option R),ybfy.net_key c k = k (keyCo c):=fun k=>rfl
  have ih:=yqIy C hl by1 held D O cs n (i + 1) (S ++ [siteF by1 c]) h'.2.2.1 (Nat.lt_of_succ_lt_succ (by simpa only [List.length_cons] using hn)) (by simp; omega) R e0
  have hs:((yaly (keyCo c) by1).getD ⟨[],0,0,0,⟨0,0,[],[],0,0,[],[]⟩,[],[],0⟩).f_Site = siteF by1 c:=rfl
  rw [z16z_L25,yaAy h,cond_true,yb1y h,ycpy h,hk,hs,room1 S (siteF by1 c) 16 (show S.length≤1000000 by omega) (by omega),cond_true,yary (show i < 4611686018427387904 by omega),ih,List.map_cons,List.append_assoc]
  rfl
theorem yEzy {a b:G_Contact} (h:cmpC a b = 0):keyCo a = keyCo b:=by
 unfold cmpC at h
 rw [ytEy] at h
 simp only [List.mem_cons,List.not_mem_nil,or_false,forall_eq_or_imp,forall_eq,ymly,yhoy] at h
 unfold keyCo
 rw [h.1,h.2.1,h.2.2.1,h.2.2.2]
structure Told (d:List G_Deed) (js:List Int) (D:List G_Deed) (C:List G_Contact) (S:List (List UInt8)) (O:List Int):Prop where
 ok:StOk D C S O
 fc:∀ c ∈ C,Fine c
 lg:yh7y C = 0
 sl:S.length = C.length
 ss:∀ s ∈ S,∃ y ∈ D,y.f_Site = s
 cn:C.length + O.length = ycIy d js
theorem z16z_right {d:List G_Deed} (hr:RightD d) (hl:d.length≤1000) (at0:Int):∃ (js:List Int) (D:List G_Deed) (C:List G_Contact) (S:List (List UInt8)) (O:List Int) (H:List (G_net_own×Bool)),js.length≤1000∧(∀ j ∈ js,0≤j∧j < (d.length:Int))∧Told d js D C S O∧(∀ (R:Type) (k:List Int→Option R),z12z d at0 k = k js) ∧
  ∀ (R:Type) (k0:Int→Option R) (k1:List G_Deed→List G_Contact→List (List UInt8)→List Int→List (G_net_own×Bool)→Int→Option R),z16z d at0 k0 k1 = k1 D C S O H 0:=by
 obtain ⟨js,j1,j2,j3⟩:=z12z_gives hl at0
 have nil:∀ w,yaly w [] = none:=fun w=>by rw [yfWy]; rfl
 obtain ⟨H,B,D,C,O,g1,g2,g3,g4,g6,g5⟩:=ysSy hr hl js (by omega) j2 [] js NN 0 [] [] [] [] [] rfl (by have:=NN_ok; omega) (by omega) (by simp) (by simp) (by simp) ⟨fun w y h=>(by rw [nil] at h; cases h),.nil,fun c h=>(by cases h),fun w h=>(by rw [nil] at h; cases h),fun c h=>(by cases h),fun y h=>(by cases h)⟩ rfl
 obtain ⟨C2,y1,y2,c2⟩:=yfLy (call:=@z42z _) (xs:=C) (c:=cmpC) (by omega) (fun x _ y _=>z42z_is x y) (yBPy.pre _)
 have hlen:=y1.length_eq
 have hmem:∀ c ∈ C2,c ∈ C:=fun c hc=>y1.mem_iff.1 hc
 have s2:=yqIy C2 (by omega) B H D O C2 NN 0 [] rfl (by have:=NN_ok; omega) (by simp)
 have f1:∀ (R:Type) (k:List Int→Option R),ybfy.z12z d at0 k = k js:=j3
 have f2:∀ (R:Type) (k:List G_Contact→Option R),ybfy.z34z C k = k C2:=fun R k=>c2 R k
 have strict:C2.Pairwise fun a b=>cmpC a b < 0:=by
  have hown:C2.Pairwise fun a b=>keyCo a ≠ keyCo b:=(y1.pairwise_iff (fun {a b} h e=>h e.symm)).2 g4.i2
  refine (y2.and hown).imp fun {a b} h=>?_
  rcases Int.lt_or_eq_of_le h.1 with t | t
  ·exact t
  ·exact absurd (yEzy t) h.2
 refine ⟨js,D,C2,C2.map (siteF B),O,H,by omega,j2,⟨⟨by omega,by omega,by rw [List.length_map]; omega,by omega,fun y hy=>hr.fine y (g4.i6 y hy)⟩,fun c hc=>(g4.i5 c (hmem c hc)).1,yDdy (fun c hc=>(g4.i5 c (hmem c hc)).2) strict (by omega),by rw [List.length_map],fun s hs=>?_,by rw [hlen]; exact g6⟩,j3,fun R k0 k1=>?_⟩
 ·obtain ⟨c,hc,rfl⟩:=List.mem_map.1 hs
  obtain ⟨y,hy⟩:=Option.isSome_iff_exists.1 (g4.i3 c (hmem c hc))
  refine ⟨y,g4.i1 _ y hy,?_⟩
  unfold siteF
  rw [hy]; rfl
 ·show z16z_ ybfy d at0 k0 k1 = _
  unfold z16z_
  rw [f1]
  refine (g5 R _).trans ?_
  rw [decide_eq_false (show ¬ ((C.length:Int) > 2000) by omega),cond_false,f2]
  refine (s2 R _).trans ?_
  rw [List.nil_append]
theorem yiny {d:List G_Deed} (hr:RightD d) (hl:d.length≤1000) {at0:Int} (ha:momB at0 = true) (R:Type) (k:Int→Option R):z62z d at0 k = k 0:=by
 have f1:∀ (k:Int→Option R),ymQy.z13z d k = k 0:=fun k=>z13z_right hr hl R k
 have f2:∀ (k:Bool→Option R),ymQy.z50z at0 k = k true:=fun k=>by
  show z50z at0 k = _
  rw [z50z_is,ha]
 show z62z_ ymQy d at0 k = _
 unfold z62z_
 rw [f1,bne_self_eq_false,cond_false,f2]; rfl
end Go.Am
