/- Part of an abstract machine for this program, with its soundness: AmCall. No condition: lemmas for the claim. -/
import Derived.Test.YtoajjnhmofegcaaGreatDoorAmOps5
set_option linter.unusedVariables false
set_option linter.unusedSimpArgs false
namespace Go.Am
open Go
variable {A:Nat→Type}
variable {T:Ty A} {w0 w w':World} {F0:List Nat} {X:Nat→Prop} {γ γ':Nat→Value} {φ φ':Nat→List Nat} {av av':Nat→Prop} {tmps:Array Value} {S S':St A} {R:Type} {P:Program}
variable {k:AV A→Upd A→List Nat→Option R} {res:R}
theorem RIVs.append:∀ {xs ys:List (IV A)} {vs us:List Value} {F G:List Nat},RIVs T w av xs vs F→RIVs T w av ys us G→RIVs T w av (xs++ys) (vs++us) (F++G)
 | [],ys,vs,us,F,G,h,h'=>by simp only [RIVs] at h;obtain ⟨rfl,rfl⟩:=h;simpa using h'
 | x::xs,ys,vs,us,F,G,h,h'=>by
  simp only [RIVs] at h
  obtain ⟨v,vs',F1,F2,rfl,rfl,h1,h2⟩:=h
  simp only [List.cons_append,RIVs]
  exact ⟨v,vs'++us,F1,F2++G,rfl,by simp,h1,RIVs.append h2 h'⟩
theorem yk1y (h:Rel T w0 F0 X γ φ av w tmps S):∀ n,
  (∀ x v iv ts,RAV T w av S.look γ x v→hand S.look n x = some (iv,ts)→RIV T w av iv v (ts.flatMap φ)∧∀ t∈ts,(S.look t).isSome = true) ∧
  (∀ xs vs ivs ts,RAVs T w av S.look γ xs vs→hands S.look n xs = some (ivs,ts)→RIVs T w av ivs vs (ts.flatMap φ)∧∀ t∈ts,(S.look t).isSome = true):=by
 intro n
 induction n with
 | zero=>exact ⟨fun x v iv ts _ h=>by simp [hand] at h,fun xs vs ivs ts _ h=>by simp [hands] at h⟩
 | succ n ih =>
  refine ⟨fun x v iv ts hx hh=>?_,fun xs vs ivs ts hx hh=>?_⟩
  ·cases x <;> simp only [hand] at hh <;> try (cases hh;done)
   case undef=>simp at hh;obtain ⟨rfl,rfl⟩:=hh;exact ⟨by simp [RIV],by simp⟩
   case d y=>simp at hh;obtain ⟨rfl,rfl⟩:=hh;simp only [RAV] at hx;exact ⟨by simp [RIV,hx],by simp⟩
   case cel cs off=>simp at hh;obtain ⟨rfl,rfl⟩:=hh;simp only [RAV] at hx;exact ⟨by simp only [RIV];exact ⟨rfl,hx⟩,by simp⟩
   case agg cs =>
    cases hc:hands S.look n cs with
    | none=>simp [hc] at hh
    | some p =>
     obtain ⟨ivs,ts'⟩:=p
     simp [hc] at hh
     obtain ⟨rfl,rfl⟩:=hh
     simp only [RAV] at hx
     obtain ⟨vs,rfl,hvs⟩:=hx
     obtain ⟨h1,h2⟩:=ih.2 _ _ _ _ hvs hc
     exact ⟨by simp only [RIV];exact ⟨vs,rfl,h1⟩,h2⟩
   case tup cs =>
    cases hc:hands S.look n cs with
    | none=>simp [hc] at hh
    | some p =>
     obtain ⟨ivs,ts'⟩:=p
     simp [hc] at hh
     obtain ⟨rfl,rfl⟩:=hh
     simp only [RAV] at hx
     obtain ⟨vs,rfl,hvs⟩:=hx
     obtain ⟨h1,h2⟩:=ih.2 _ _ _ _ hvs hc
     exact ⟨by simp only [RIV];exact ⟨vs,rfl,h1⟩,h2⟩
   case fn f cs =>
    cases hc:hands S.look n cs with
    | none=>simp [hc] at hh
    | some p =>
     obtain ⟨ivs,ts'⟩:=p
     simp [hc] at hh
     obtain ⟨rfl,rfl⟩:=hh
     simp only [RAV] at hx
     obtain ⟨vs,rfl,hvs⟩:=hx
     obtain ⟨h1,h2⟩:=ih.2 _ _ _ _ hvs hc
     exact ⟨by simp only [RIV];exact ⟨vs,rfl,h1⟩,h2⟩
   case own e t =>
    cases hl:S.look t with
    | none=>simp [hl] at hh
    | some ob =>
     rw [hl] at hh
     simp only [RAV] at hx
     obtain ⟨hv,hx2⟩:=hx ob hl
     clear hx2
     have hob:=h.ob t ob hl
     cases ob <;> (try simp only at hh) <;> try (cases hh;done)
     case row e' xs =>
      split at hh
      ·simp only [Option.some.injEq,Prod.mk.injEq] at hh
       obtain ⟨rfl,rfl⟩:=hh
       simp only [ROb] at hob
       exact ⟨by simpa [hv] using hob,by simp [hl]⟩
      ·cases hh
     case frz e' xs =>
      split at hh
      ·simp only [Option.some.injEq,Prod.mk.injEq] at hh
       obtain ⟨rfl,rfl⟩:=hh
       simp only [ROb] at hob
       exact ⟨by simp only [RIV];exact ⟨by simp,by rw [hv];exact hob.2.1⟩,by simp⟩
      ·cases hh
   case ptr t off =>
    cases off with
    | succ m=>simp at hh
    | zero =>
     cases hl:S.look t with
     | none=>simp [hl] at hh
     | some ob =>
      rw [hl] at hh
      simp only [RAV] at hx
      obtain ⟨⟨b,hg,rfl⟩,hx2⟩:=hx ob hl
      clear hx2
      have hob:=h.ob t ob hl
      cases ob <;> (try simp only at hh) <;> try (cases hh;done)
      rename_i cs
      cases hc:hands S.look n cs with
      | none=>simp [hc] at hh
      | some p =>
       obtain ⟨ivs,ts'⟩:=p
       simp [hc] at hh
       obtain ⟨rfl,rfl⟩:=hh
       simp only [ROb] at hob
       obtain ⟨b',c,ty,hg',hφ,hc',hcs⟩:=hob
       have hbb:b' = b:=by rw [hg] at hg';simpa using hg'.symm
       subst hbb
       obtain ⟨h1,h2⟩:=ih.2 _ _ _ _ hcs hc
       refine ⟨?_,by intro t' ht';rcases List.mem_cons.1 ht' with rfl | ht';simp [hl];exact h2 t' ht'⟩
       simp only [RIV]
       exact ⟨b',c,ty,ts'.flatMap φ,rfl,by simp [hφ],hc',h1⟩
   case mp t =>
    cases hl:S.look t with
    | none=>simp [hl] at hh
    | some ob =>
     rw [hl] at hh
     simp only [RAV] at hx
     obtain ⟨hv,hx2⟩:=hx ob hl
     clear hx2
     have hob:=h.ob t ob hl
     cases ob <;> (try simp only at hh) <;> try (cases hh;done)
     simp only [Option.some.injEq,Prod.mk.injEq] at hh
     obtain ⟨rfl,rfl⟩:=hh
     simp only [ROb] at hob
     exact ⟨by simpa [hv] using hob,by simp [hl]⟩
  ·cases xs with
   | nil =>
    simp [hands] at hh
    obtain ⟨rfl,rfl⟩:=hh
    simp only [RAVs] at hx
    subst hx
    exact ⟨by simp [RIVs],by simp⟩
   | cons x xs =>
    simp only [RAVs] at hx
    obtain ⟨v,vs',rfl,h1,h2⟩:=hx
    simp only [hands] at hh
    cases hc:hand S.look n x with
    | none=>simp [hc] at hh
    | some p =>
     obtain ⟨iv,t1⟩:=p
     cases hc2:hands S.look n xs with
     | none=>simp [hc,hc2] at hh
     | some q =>
      obtain ⟨ivs',t2⟩:=q
      simp [hc,hc2] at hh
      obtain ⟨rfl,rfl⟩:=hh
      obtain ⟨a1,a2⟩:=ih.1 _ _ _ _ h1 hc
      obtain ⟨b1,b2⟩:=ih.2 _ _ _ _ h2 hc2
      refine ⟨?_,fun t ht=>(List.mem_append.1 ht).elim (a2 t) (b2 t)⟩
      simp only [RIVs]
      exact ⟨v,vs',t1.flatMap φ,t2.flatMap φ,rfl,by simp,a1,b1⟩
theorem Rel.lend (h:Rel T w0 F0 X γ φ av w tmps S) {t e:Nat} {xs:List (A e)} (hl:S.look t = some (.row e xs) ∨ S.look t = some (.frz e xs)) {avL:Nat→Prop} (hsub:∀ b,avL b→av b) (hno:∀ b∈φ t,¬ avL b):DR T w avL (.sl e xs) (γ t):=by
 have hp:Pres w av w avL:=fun b o hb ho=>⟨ho,fun hx=>hb (hsub b hx)⟩
 rcases hl with hl | hl
 ·have hr:=h.ob t _ hl
  simp only [ROb,RIV] at hr
  obtain ⟨ob,hφ,hs,hrow⟩:=hr
  cases ob with
  | none =>
   simp only [OwnSl] at hs
   obtain ⟨hn,hv⟩:=hs
   have:xs = []:=List.eq_nil_of_length_eq_zero hn
   subst this
   rw [hv]
   exact DR.of_row (.inl rfl) (Nat.zero_le _) (fun hne=>absurd rfl hne)
  | some b =>
   simp only [OwnSl] at hs
   obtain ⟨cap,c,ty,hv,hle,hc,_⟩:=hs
   obtain ⟨c',ty',hc',hr⟩:=hrow b rfl
   rw [hv]
   exact DR.of_row (.inr ⟨_,_,rfl⟩) hle (fun _=>⟨b,0,c',ty',_,rfl,hno b (by simp [hφ]),hc',hr.mono hp⟩)
 ·have hr:=h.ob t _ hl
  simp only [ROb] at hr
  exact hr.2.1.mono hp
theorem yjVy (h:Rel T w0 F0 X γ φ av w tmps S) {avL:Nat→Prop} (hsub:∀ b,avL b→av b) {wr:Nat→Bool}:∀ {xs:List (AV A)} {vs:List Value} {j:Nat} {ivs:List (IV A)} {ts lent:List Nat},
  RAVs T w av S.look γ xs vs→ybzy S.look wr j xs = some (ivs,ts,lent)→(∀ t∈lent,∀ b∈φ t,¬ avL b) →
  RIVs T w avL ivs vs (ts.flatMap φ)∧(∀ t∈ts,(S.look t).isSome = true)∧(∀ t∈lent,∃ e,∃ xs:List (A e),S.look t = some (.row e xs) ∨ S.look t = some (.frz e xs))
 | [],vs,j,ivs,ts,lent,hx,hh,hno=>by
  simp [ybzy] at hh
  obtain ⟨rfl,rfl,rfl⟩:=hh
  simp only [RAVs] at hx
  subst hx
  exact ⟨by simp [RIVs],by simp,by simp⟩
 | x::xs,vs,j,ivs,ts,lent,hx,hh,hno=>by
  simp only [RAVs] at hx
  obtain ⟨v,vs',rfl,h1,h2⟩:=hx
  simp only [ybzy] at hh
  have hp:Pres w av w avL:=fun b o hb ho=>⟨ho,fun hx=>hb (hsub b hx)⟩
  cases hc:ydpy S.look (wr j) x with
  | none=>simp [hc] at hh
  | some p =>
   obtain ⟨iv,t1,l1⟩:=p
   cases hc2:ybzy S.look wr (j + 1) xs with
   | none=>simp [hc,hc2] at hh
   | some q =>
    obtain ⟨ivs',t2,l2⟩:=q
    simp [hc,hc2] at hh
    obtain ⟨rfl,rfl,rfl⟩:=hh
    obtain ⟨b1,b2,b3⟩:=yjVy h hsub h2 hc2 (fun t ht=>hno t (by simp [ht]))
    have hone:RIV T w avL iv v (t1.flatMap φ)∧(∀ t∈t1,(S.look t).isSome = true)∧(∀ t∈l1,∃ e,∃ xs:List (A e),S.look t = some (.row e xs) ∨ S.look t = some (.frz e xs)):=by
     unfold ydpy at hc
     split at hc
     ·rename_i e t hwr
      simp only [RAV] at h1
      cases hl:S.look t with
      | none=>simp [hl] at hc
      | some ob =>
       rw [hl] at hc
       obtain ⟨hv,hx2⟩:=h1 ob hl
       clear hx2
       cases ob <;> (try simp only at hc) <;> try (cases hc;done)
       all_goals
        simp only [Option.some.injEq,Prod.mk.injEq] at hc
        obtain ⟨rfl,rfl,rfl⟩:=hc
        refine ⟨?_,by simp,by intro t' ht';simp at ht';subst ht';first | exact ⟨_,_,.inl hl⟩ | exact ⟨_,_,.inr hl⟩⟩
        simp only [RIV,List.flatMap_nil,true_and]
        rw [hv]
        exact h.lend (by first | exact .inl hl | exact .inr hl) hsub (hno t (by simp))
     ·rename_i y _ _ hnot
      cases hd:hand S.look 64 y with
      | none=>simp [hd] at hc
      | some p =>
       obtain ⟨iv',t'⟩:=p
       simp [hd] at hc
       obtain ⟨rfl,rfl,rfl⟩:=hc
       obtain ⟨c1,c2⟩:=(yk1y h 64).1 _ _ _ _ h1 hd
       exact ⟨RIV.mono hp _ _ _ (fun _ _=>rfl) c1,c2,by simp⟩
    obtain ⟨a1,a2,a3⟩:=hone
    refine ⟨?_,fun t ht=>(List.mem_append.1 ht).elim (a2 t) (b2 t),fun t ht=>(List.mem_append.1 ht).elim (a3 t) (b3 t)⟩
    simp only [RIVs]
    exact ⟨v,vs',t1.flatMap φ,t2.flatMap φ,rfl,by simp,a1,b1⟩
end Go.Am
set_option linter.unusedVariables false
set_option linter.unusedSimpArgs false
namespace Go.Am
open Go
variable {A:Nat→Type}
variable {T:Ty A} {w0 w w':World} {F0:List Nat} {X:Nat→Prop} {γ γ':Nat→Value} {φ φ':Nat→List Nat} {av av':Nat→Prop} {tmps:Array Value} {S S':St A} {R:Type} {P:Program}
variable {k:AV A→Upd A→List Nat→Option R} {res:R}
theorem ycxy:∀ n,
  (∀ (iv:IV A) fs x u fs',putIV n iv fs = some (x,u,fs')→∃ used,fs = used++fs'∧(∀ t,occAV t x = true→t∈used)∧(∀ y∈u,∀ t,occOb t y.2 = true→t∈used)∧(∀ y∈u,y.1∈used)) ∧
  (∀ (ivs:List (IV A)) fs xs u fs',yaLy n ivs fs = some (xs,u,fs')→∃ used,fs = used++fs'∧(∀ t,yady t xs = true→t∈used)∧(∀ y∈u,∀ t,occOb t y.2 = true→t∈used)∧(∀ y∈u,y.1∈used)):=by
 intro n
 induction n with
 | zero=>exact ⟨fun iv fs x u fs' h=>by simp [putIV] at h,fun ivs fs xs u fs' h=>by simp [yaLy] at h⟩
 | succ n ih =>
  refine ⟨fun iv fs x u fs' h=>?_,fun ivs fs xs u fs' h=>?_⟩
  ·cases iv with
   | undef=>simp [putIV] at h;obtain ⟨rfl,rfl,rfl⟩:=h;exact ⟨[],by simp [occAV]⟩
   | d y=>simp [putIV] at h;obtain ⟨rfl,rfl,rfl⟩:=h;exact ⟨[],by simp [occAV]⟩
   | cel cs off=>simp [putIV] at h;obtain ⟨rfl,rfl,rfl⟩:=h;exact ⟨[],by simp [occAV]⟩
   | agg ys =>
    simp only [putIV] at h
    cases hc:yaLy n ys fs with
    | none=>simp [hc] at h
    | some p =>
     obtain ⟨cs,u',f'⟩:=p
     simp [hc] at h
     obtain ⟨rfl,rfl,rfl⟩:=h
     obtain ⟨used,h1,h2,h3,h4⟩:=ih.2 _ _ _ _ _ hc
     exact ⟨used,h1,fun t ht=>h2 t (by simpa [occAV] using ht),h3,h4⟩
   | tup ys =>
    simp only [putIV] at h
    cases hc:yaLy n ys fs with
    | none=>simp [hc] at h
    | some p =>
     obtain ⟨cs,u',f'⟩:=p
     simp [hc] at h
     obtain ⟨rfl,rfl,rfl⟩:=h
     obtain ⟨used,h1,h2,h3,h4⟩:=ih.2 _ _ _ _ _ hc
     exact ⟨used,h1,fun t ht=>h2 t (by simpa [occAV] using ht),h3,h4⟩
   | arr e ys =>
    cases fs with
    | nil=>simp [putIV] at h
    | cons t fs =>
     simp [putIV] at h
     obtain ⟨rfl,rfl,rfl⟩:=h
     exact ⟨[t],by simp,fun t' ht'=>by simp [occAV] at ht';simp [ht'],fun y hy t' ht'=>by simp at hy;subst hy;simp [occOb] at ht',fun y hy=>by simp at hy;subst hy;simp⟩
   | box ys =>
    cases fs with
    | nil=>simp [putIV] at h
    | cons t fs =>
     simp only [putIV] at h
     cases hc:yaLy n ys fs with
     | none=>simp [hc] at h
     | some p =>
      obtain ⟨cs,u',f'⟩:=p
      simp [hc] at h
      obtain ⟨rfl,rfl,rfl⟩:=h
      obtain ⟨used,h1,h2,h3,h4⟩:=ih.2 _ _ _ _ _ hc
      refine ⟨t::used,by simp [h1],fun t' ht'=>by simp [occAV] at ht';simp [ht'],fun y hy t' ht'=>?_,fun y hy=>?_⟩
      ·rcases List.mem_append.1 hy with hy | hy
       ·exact List.mem_cons_of_mem _ (h3 y hy t' ht')
       ·simp at hy;subst hy;exact List.mem_cons_of_mem _ (h2 t' (by simpa [occOb] using ht'))
      ·rcases List.mem_append.1 hy with hy | hy
       ·exact List.mem_cons_of_mem _ (h4 y hy)
       ·simp at hy;subst hy;simp
   | fn f ys =>
    simp only [putIV] at h
    cases hc:yaLy n ys fs with
    | none=>simp [hc] at h
    | some p =>
     obtain ⟨cs,u',f'⟩:=p
     simp [hc] at h
     obtain ⟨rfl,rfl,rfl⟩:=h
     obtain ⟨used,h1,h2,h3,h4⟩:=ih.2 _ _ _ _ _ hc
     exact ⟨used,h1,fun t ht=>h2 t (by simpa [occAV] using ht),h3,h4⟩
   | mp k e m =>
    cases fs with
    | nil=>simp [putIV] at h
    | cons t fs =>
     simp [putIV] at h
     obtain ⟨rfl,rfl,rfl⟩:=h
     exact ⟨[t],by simp,fun t' ht'=>by simp [occAV] at ht';simp [ht'],fun y hy t' ht'=>by simp at hy;subst hy;simp [occOb] at ht',fun y hy=>by simp at hy;subst hy;simp⟩
  ·cases ivs with
   | nil=>simp [yaLy] at h;obtain ⟨rfl,rfl,rfl⟩:=h;exact ⟨[],by simp [yady]⟩
   | cons iv ivs =>
    simp only [yaLy] at h
    cases hc:putIV n iv fs with
    | none=>simp [hc] at h
    | some p =>
     obtain ⟨c,u1,f1⟩:=p
     cases hc2:yaLy n ivs f1 with
     | none=>simp [hc,hc2] at h
     | some q =>
      obtain ⟨cs,u2,f2⟩:=q
      simp [hc,hc2] at h
      obtain ⟨rfl,rfl,rfl⟩:=h
      obtain ⟨us1,a1,a2,a3,a4⟩:=ih.1 _ _ _ _ _ hc
      obtain ⟨us2,b1,b2,b3,b4⟩:=ih.2 _ _ _ _ _ hc2
      refine ⟨us1++us2,by rw [a1,b1,List.append_assoc],fun t ht=>?_,fun y hy t ht=>?_,fun y hy=>?_⟩
      ·simp only [yady,Bool.or_eq_true] at ht
       exact List.mem_append.2 (ht.imp (a2 t) (b2 t))
      ·exact List.mem_append.2 ((List.mem_append.1 hy).imp (fun h=>a3 y h t ht) (fun h=>b3 y h t ht))
      ·exact List.mem_append.2 ((List.mem_append.1 hy).imp (a4 y) (b4 y))
structure Own (w0:World) (F0:List Nat) (X:Nat→Prop) (φ:Nat→List Nat) (av:Nat→Prop) (w:World) (S:St A) (F:List Nat):Prop where
 av:∀ b∈F,av b
 x:∀ b∈F,¬ X b
 φ:∀ b∈F,∀ t o,S.look t = some o→b ∉ φ t
 fp:∀ b∈F,(b∈F0 ∨ w0.heap.size≤b)∧b < w.heap.size
theorem Rel.ins (h:Rel T w0 F0 X γ φ av w tmps S) {t:Nat} (hlt:t < S.st.length) (o:Ob A) (v:Value) (Fp:List Nat)
  (hwas:(S.look t = none∧occSt t S = false) ∨ (∃ kd,S.look t = some (.gone kd)∧o.kind = kd∧v = γ t)) (hnd:Fp.Nodup) (hown:Own w0 F0 X φ av w S Fp)
  (hob:∀ γ' φ',γ' t = v→φ' t = Fp→(∀ u,u≠t→γ' u = γ u)→(∀ u,occSt u S = true→yauy S.look γ (St.look { S with st:=S.st.set t (some o) }) γ' u)→ROb T w av (St.look { S with st:=S.st.set t (some o) }) γ' φ' t o) :
  ∃ γ' φ',Rel T w0 F0 X γ' φ' av w tmps { S with st:=S.st.set t (some o) }∧γ' t = v∧φ' t = Fp∧(∀ u,u≠t→γ' u = γ u)∧(∀ u,u≠t→φ' u = φ u)∧(∀ u,occSt u S = true→yauy S.look γ (St.look { S with st:=S.st.set t (some o) }) γ' u):=by
 have hl:∀ u,St.look { S with st:=S.st.set t (some o) } u = if u = t then some o else S.look u:=by
  intro u;rw [yayy];by_cases hu:u = t <;> simp [hu,hlt]
 let γ':Nat→Value:=fun u=>if u = t then v else γ u
 let φ':Nat→List Nat:=fun u=>if u = t then Fp else φ u
 have hγt:γ' t = v:=by simp [γ']
 have hφt:φ' t = Fp:=by simp [φ']
 have hγn:∀ u,u≠t→γ' u = γ u:=fun u hu=>by simp [γ',hu]
 have hφn:∀ u,u≠t→φ' u = φ u:=fun u hu=>by simp [φ',hu]
 have hcompat:∀ u,occSt u S = true→yauy S.look γ (St.look { S with st:=S.st.set t (some o) }) γ' u:=by
  intro u hu o' ho'
  rw [hl] at ho'
  by_cases hut:u = t
  ·subst hut
   rw [if_pos rfl] at ho'
   cases ho'
   rcases hwas with ⟨_,ho⟩ | ⟨kd,h1,h2,h3⟩
   ·rw [ho] at hu;cases hu
   ·exact ⟨_,h1,by rw [hγt,h3],by rw [h2];rfl⟩
  ·rw [if_neg hut] at ho'
   exact ⟨o',ho',hγn u hut,rfl⟩
 have hφold:∀ o',S.look t = some o'→φ t = []:=by
  intro o' ho'
  rcases hwas with ⟨hn,_⟩ | ⟨kd,h1,_,_⟩
  ·rw [hn] at ho';cases ho'
  ·have:=h.ob t _ h1
   simp only [ROb] at this
   exact this.1
 refine ⟨γ',φ',?_,hγt,hφt,hγn,hφn,hcompat⟩
 refine h.upd (fun u=>u = t) rfl (Pres.refl _ _) ?_ (fun _ _ _ _ _ _=>rfl) (fun u _ hu=>hcompat u hu) ?_ ?_ ?_ ?_ h.avlt ?_ (Nat.le_refl _) h.left
 ·intro u hu;exact ⟨by rw [hl,if_neg hu],hγn u hu,hφn u hu⟩
 ·intro u o' hu ho'
  subst hu
  rw [hl,if_pos rfl] at ho'
  cases ho'
  exact hob γ' φ' hγt hφt hγn hcompat
 ·intro u o' hu _;subst hu;rw [hφt];exact hnd
 ·intro u o' u' o'' hu _ ho'' hne b hb hb'
  subst hu
  rw [hl,if_neg (Ne.symm hne)] at ho''
  rw [hφt] at hb
  rw [hφn u' (Ne.symm hne)] at hb'
  exact hown.φ b hb u' o'' ho'' hb'
 ·rintro b (hx | ⟨u,o',ho',hm⟩)
  ·exact h.avs b (.inl hx)
  ·by_cases hu:u = t
   ·subst hu;rw [hφt] at hm;exact hown.av b hm
   ·rw [hl,if_neg hu] at ho';rw [hφn u hu] at hm
    exact h.avs b (.inr ⟨u,o',ho',hm⟩)
 ·intro u o' hu _ b hb
  subst hu
  rw [hφt] at hb
  exact hown.fp b hb
theorem yfky {t:Nat}:∀ {u:Upd A} {S:St A},occSt t (S.upd u) = true→occSt t S = true ∨ ∃ y∈u,occOb t y.2 = true
 | [],S,h=>.inl h
 | (i,o)::u,S,h=>by
  simp only [St.upd] at h
  rcases yfky h with h | ⟨y,hy,h⟩
  ·cases ho:occOb t o with
   | true=>exact .inr ⟨(i,o),by simp,ho⟩
   | false =>
    unfold occSt at h ⊢
    rw [Bool.or_eq_true] at h ⊢
    exact .inl (h.imp id (yjry (i:=i) ho))
  ·exact .inr ⟨y,by simp [hy],h⟩
theorem yd1y {t:Nat}:∀ {u:Upd A} {S:St A},(∀ y∈u,y.1≠t)→(S.upd u).look t = S.look t
 | [],S,h=>rfl
 | (i,o)::u,S,h=>by
  simp only [St.upd]
  rw [yd1y (fun y hy=>h y (by simp [hy])),yayy,if_neg (fun hc=>h (i,o) (by simp) hc.1.symm)]
theorem nodup_append {l m:List Nat} (h:(l++m).Nodup):l.Nodup∧m.Nodup∧∀ x∈l,x ∉ m:=by
 rw [List.nodup_append] at h
 exact ⟨h.1,h.2.1,fun x hx hm=>h.2.2 x hx x hm rfl⟩
end Go.Am
set_option linter.unusedVariables false
set_option linter.unusedSimpArgs false
namespace Go.Am
open Go
variable {A:Nat→Type}
variable {T:Ty A} {w0 w w':World} {F0:List Nat} {X:Nat→Prop} {γ γ':Nat→Value} {φ φ':Nat→List Nat} {av av':Nat→Prop} {tmps:Array Value} {S S':St A} {R:Type} {P:Program}
structure Only (S S':St A) (γ γ':Nat→Value) (φ φ':Nat→List Nat) (used F:List Nat):Prop where
 out:∀ t,t ∉ used→S'.look t = S.look t∧γ' t = γ t∧φ' t = φ t
 inn:∀ t∈used,∀ b∈φ' t,b∈F
 len:S'.st.length = S.st.length
theorem Only.refl:Only S S γ γ φ φ [] []:=⟨fun t _=>⟨rfl,rfl,rfl⟩,by simp,rfl⟩
theorem Only.trans {S1 S2 S3:St A} {γ1 γ2 γ3:Nat→Value} {φ1 φ2 φ3:Nat→List Nat} {u1 u2 F1 F2:List Nat} (h1:Only S1 S2 γ1 γ2 φ1 φ2 u1 F1) (h2:Only S2 S3 γ2 γ3 φ2 φ3 u2 F2) :
  Only S1 S3 γ1 γ3 φ1 φ3 (u1++u2) (F1++F2):=by
 refine ⟨fun t ht=>?_,fun t ht b hb=>?_,h2.len.trans h1.len⟩
 ·rw [List.mem_append,not_or] at ht
  obtain ⟨a1,a2,a3⟩:=h1.out t ht.1
  obtain ⟨b1,b2,b3⟩:=h2.out t ht.2
  exact ⟨b1.trans a1,b2.trans a2,b3.trans a3⟩
 ·rw [List.mem_append]
  by_cases hu:t∈u2
  ·exact .inr (h2.inn t hu b hb)
  ·rw [(h2.out t hu).2.2] at hb
   exact .inl (h1.inn t ((List.mem_append.1 ht).resolve_right hu) b hb)
theorem Own.only {F G used:List Nat} (h:Own w0 F0 X φ av w S G) (ho:Only S S' γ γ' φ φ' used F) (hd:∀ b∈F,b ∉ G):Own w0 F0 X φ' av w S' G:=by
 refine ⟨h.av,h.x,fun b hb t o hl hm=>?_,h.fp⟩
 by_cases ht:t∈used
 ·exact hd b (ho.inn t ht b hm) hb
 ·obtain ⟨a1,a2,a3⟩:=ho.out t ht
  rw [a3] at hm
  exact h.φ b hb t o (a1 ▸ hl) hm
theorem Own.sub {F G:List Nat} (h:Own w0 F0 X φ av w S G) (hs:∀ b∈F,b∈G):Own w0 F0 X φ av w S F :=
 ⟨fun b hb=>h.av b (hs b hb),fun b hb=>h.x b (hs b hb),fun b hb=>h.φ b (hs b hb),fun b hb=>h.fp b (hs b hb)⟩
theorem RAV.only {F used:List Nat} {x:AV A} {v:Value} (h:RAV T w av S.look γ x v) (ho:Only S S' γ γ' φ φ' used F) (hx:∀ t,occAV t x = true→t ∉ used):RAV T w av S'.look γ' x v :=
 RAV.mono (Pres.refl _ _) x v (fun t ht=>yauy.same (ho.out t (hx t ht)).1 (ho.out t (hx t ht)).2.1) h
theorem RAVs.only {F used:List Nat} {x:List (AV A)} {v:List Value} (h:RAVs T w av S.look γ x v) (ho:Only S S' γ γ' φ φ' used F) (hx:∀ t,yady t x = true→t ∉ used):RAVs T w av S'.look γ' x v :=
 RAVs.mono (Pres.refl _ _) x v (fun t ht=>yauy.same (ho.out t (hx t ht)).1 (ho.out t (hx t ht)).2.1) h
theorem Rel.ins' (h:Rel T w0 F0 X γ φ av w tmps S) {t:Nat} (hlt:t < S.st.length) (o:Ob A) (v:Value) (Fp:List Nat)
  (hwas:(S.look t = none∧occSt t S = false) ∨ (∃ kd,S.look t = some (.gone kd)∧o.kind = kd∧v = γ t)) (hnd:Fp.Nodup) (hown:Own w0 F0 X φ av w S Fp)
  (hob:∀ γ' φ',γ' t = v→φ' t = Fp→(∀ u,u≠t→γ' u = γ u∧St.look { S with st:=S.st.set t (some o) } u = S.look u)→ROb T w av (St.look { S with st:=S.st.set t (some o) }) γ' φ' t o) :
  ∃ γ' φ',Rel T w0 F0 X γ' φ' av w tmps { S with st:=S.st.set t (some o) }∧γ' t = v∧St.look { S with st:=S.st.set t (some o) } t = some o∧Only S { S with st:=S.st.set t (some o) } γ γ' φ φ' [t] Fp:=by
 have hl:∀ u,u≠t→St.look { S with st:=S.st.set t (some o) } u = S.look u:=by
  intro u hu;rw [yayy];simp [hu]
 obtain ⟨γ',φ',h1,h2,h3,h4,h5,h6⟩:=h.ins hlt o v Fp hwas hnd hown (fun γ' φ' a b c _=>hob γ' φ' a b (fun u hu=>⟨c u hu,hl u hu⟩))
 refine ⟨γ',φ',h1,h2,by rw [yayy];simp [hlt],⟨fun u hu=>?_,fun u hu b hb=>?_,by simp⟩⟩
 ·have hu:u≠t:=by simpa using hu
  exact ⟨hl u hu,h4 u hu,h5 u hu⟩
 ·simp at hu;subst hu;rwa [h3] at hb
theorem yeyy:∀ n,
  (∀ (iv:IV A) v F fs x u fs' (S:St A) γ φ,putIV n iv fs = some (x,u,fs')→Rel T w0 F0 X γ φ av w tmps S→RIV T w av iv v F→F.Nodup→Own w0 F0 X φ av w S F→fs.Nodup →
   (∀ t∈fs,S.look t = none)→(∀ y∈u,y.1 < S.st.length∧occSt y.1 S = false) →
   ∃ γ' φ' used,fs = used++fs'∧Rel T w0 F0 X γ' φ' av w tmps (S.upd u)∧RAV T w av (S.upd u).look γ' x v∧Only S (S.upd u) γ γ' φ φ' used F ∧
    (∀ t,occAV t x = true→t∈used)∧(∀ y∈u,∀ t,occOb t y.2 = true→t∈used)∧(∀ y∈u,y.1∈used)) ∧
  (∀ (ivs:List (IV A)) vs F fs xs u fs' (S:St A) γ φ,yaLy n ivs fs = some (xs,u,fs')→Rel T w0 F0 X γ φ av w tmps S→RIVs T w av ivs vs F→F.Nodup→Own w0 F0 X φ av w S F→fs.Nodup →
   (∀ t∈fs,S.look t = none)→(∀ y∈u,y.1 < S.st.length∧occSt y.1 S = false) →
   ∃ γ' φ' used,fs = used++fs'∧Rel T w0 F0 X γ' φ' av w tmps (S.upd u)∧RAVs T w av (S.upd u).look γ' xs vs∧Only S (S.upd u) γ γ' φ φ' used F ∧
    (∀ t,yady t xs = true→t∈used)∧(∀ y∈u,∀ t,occOb t y.2 = true→t∈used)∧(∀ y∈u,y.1∈used)):=by
 intro n
 induction n with
 | zero=>exact ⟨fun iv v F fs x u fs' S γ φ h=>by simp [putIV] at h,fun ivs vs F fs xs u fs' S γ φ h=>by simp [yaLy] at h⟩
 | succ n ih =>
  refine ⟨fun iv v F fs x u fs' S γ φ h hr hv hnd hown hfs hno hocc=>?_,fun ivs vs F fs xs u fs' S γ φ h hr hv hnd hown hfs hno hocc=>?_⟩
  ·obtain ⟨used0,hu0,ht1,ht2,ht3⟩:=(ycxy (n + 1)).1 _ _ _ _ _ h
   have leaf:∀ (t:Nat) (fs1:List Nat) (o:Ob A),fs = t::fs1→u = [(t,some o)]→fs' = fs1→occOb t (some o) = false→(∀ γ' φ' (look:Nat→Option (Ob A)),γ' t = v→φ' t = F→ROb T w av look γ' φ' t o)→(∀ look γ',look t = some o→γ' t = v→RAV T w av look γ' x v) →
     ∃ γ' φ' used,fs = used++fs'∧Rel T w0 F0 X γ' φ' av w tmps (S.upd u)∧RAV T w av (S.upd u).look γ' x v∧Only S (S.upd u) γ γ' φ φ' used F ∧
      (∀ t,occAV t x = true→t∈used)∧(∀ y∈u,∀ t,occOb t y.2 = true→t∈used)∧(∀ y∈u,y.1∈used):=by
    intro t fs1 o h1 h2 h3 h4 h5 h6
    subst h1 h2 h3
    have hy:=hocc (t,some o) (by simp)
    obtain ⟨γ',φ',a1,a2,a3,a4⟩:=hr.ins' hy.1 o v F (.inl ⟨hno t (by simp),hy.2⟩) hnd hown (fun γ' φ' h1 h2 _=>h5 γ' φ' _ h1 h2)
    have hue:used0 = [t]:=by
     have:(t::fs') = used0++fs':=hu0
     have h7:[t]++fs' = used0++fs':=this
     exact (List.append_cancel_right h7).symm
    subst hue
    exact ⟨γ',φ',[t],hu0,a1,h6 _ _ a3 a2,a4,ht1,ht2,ht3⟩
   cases iv with
   | undef =>
    simp [putIV] at h;obtain ⟨rfl,rfl,rfl⟩:=h
    simp only [RIV] at hv
    subst hv
    exact ⟨γ,φ,[],by simp,hr,trivial,.refl,by simp [occAV]⟩
   | d y =>
    simp [putIV] at h;obtain ⟨rfl,rfl,rfl⟩:=h
    simp only [RIV] at hv
    obtain ⟨rfl,hv⟩:=hv
    exact ⟨γ,φ,[],by simp,hr,by simpa only [RAV] using hv,.refl,by simp [occAV]⟩
   | cel cs off =>
    simp [putIV] at h;obtain ⟨rfl,rfl,rfl⟩:=h
    simp only [RIV] at hv
    obtain ⟨rfl,hv⟩:=hv
    exact ⟨γ,φ,[],by simp,hr,by simpa only [RAV] using hv,.refl,by simp [occAV]⟩
   | agg ys =>
    simp only [putIV] at h
    cases hc:yaLy n ys fs with
    | none=>simp [hc] at h
    | some p =>
     obtain ⟨cs,u',f'⟩:=p
     simp [hc] at h
     obtain ⟨rfl,rfl,rfl⟩:=h
     simp only [RIV] at hv
     obtain ⟨vs,rfl,hvs⟩:=hv
     obtain ⟨γ',φ',used,a1,a2,a3,a4,a5,a6,a7⟩:=ih.2 _ _ _ _ _ _ _ _ _ _ hc hr hvs hnd hown hfs hno hocc
     exact ⟨γ',φ',used,a1,a2,by simp only [RAV];exact ⟨vs,rfl,a3⟩,a4,fun t ht=>a5 t (by simpa [occAV] using ht),a6,a7⟩
   | tup ys =>
    simp only [putIV] at h
    cases hc:yaLy n ys fs with
    | none=>simp [hc] at h
    | some p =>
     obtain ⟨cs,u',f'⟩:=p
     simp [hc] at h
     obtain ⟨rfl,rfl,rfl⟩:=h
     simp only [RIV] at hv
     obtain ⟨vs,rfl,hvs⟩:=hv
     obtain ⟨γ',φ',used,a1,a2,a3,a4,a5,a6,a7⟩:=ih.2 _ _ _ _ _ _ _ _ _ _ hc hr hvs hnd hown hfs hno hocc
     exact ⟨γ',φ',used,a1,a2,by simp only [RAV];exact ⟨vs,rfl,a3⟩,a4,fun t ht=>a5 t (by simpa [occAV] using ht),a6,a7⟩
   | arr e ys =>
    cases fs with
    | nil=>simp [putIV] at h
    | cons t fs =>
     simp [putIV] at h
     obtain ⟨rfl,rfl,rfl⟩:=h
     refine leaf t fs (.row e ys) rfl rfl rfl rfl (fun γ' φ' look h1 h2=>?_) (fun look γ' h1 h2=>?_)
     ·simp only [ROb];rw [h1,h2];exact hv
     ·simp only [RAV]
      intro o' ho'
      rw [h1] at ho';cases ho'
      exact ⟨h2.symm,rfl⟩
   | box ys =>
    cases fs with
    | nil=>simp [putIV] at h
    | cons t fs =>
     simp only [putIV] at h
     cases hc:yaLy n ys fs with
     | none=>simp [hc] at h
     | some p =>
      obtain ⟨cs,u',f'⟩:=p
      simp [hc] at h
      obtain ⟨rfl,rfl,rfl⟩:=h
      simp only [RIV] at hv
      obtain ⟨b,c,ty,F',rfl,rfl,hb,hvs⟩:=hv
      have hnd':=List.nodup_cons.1 hnd
      have hfs':=List.nodup_cons.1 hfs
      obtain ⟨γ1,φ1,used,a1,a2,a3,a4,a5,a6,a7⟩:=ih.2 _ _ _ _ _ _ _ _ _ _ hc hr hvs hnd'.2 (hown.sub (by simp +contextual)) hfs'.2 (fun t ht=>hno t (by simp [ht])) (fun y hy=>hocc y (by simp [hy]))
      have hy:=hocc (t,some (.box cs)) (by simp)
      have htu:t ∉ used:=fun hm=>hfs'.1 (by rw [a1];simp [hm])
      have hlt:t < (S.upd u').st.length:=by rw [yb4y];exact hy.1
      have hocc1:occSt t (S.upd u') = false:=by
       cases hq:occSt t (S.upd u') with
       | false=>rfl
       | true =>
        rcases yfky hq with hq | ⟨y,hym,hq⟩
        ·rw [hy.2] at hq;cases hq
        ·exact absurd (a6 y hym t hq) htu
      obtain ⟨γ',φ',b1,b2,b3,b4⟩:=a2.ins' hlt (.box cs) (.pointer (some ⟨b,0,none⟩)) [b] (.inl ⟨(a4.out t htu).1.trans (hno t (by simp)),hocc1⟩) (by simp)
       ((hown.sub (F:=[b]) (by simp)).only a4 (fun x hx hm=>by simp at hm;subst hm;exact hnd'.1 hx)) (fun γ' φ' h1 h2 h3=>by
        simp only [ROb]
        refine ⟨b,c,ty,h1,h2,hb,?_⟩
        refine RAVs.mono (Pres.refl _ _) _ _ (fun q hq=>?_) a3
        have hne:q≠t:=fun e=>htu (e ▸ a5 q hq)
        exact yauy.same (h3 q hne).2 (h3 q hne).1)
      have hupd:S.upd (u'++[(t,some (.box cs))]) = { S.upd u' with st:=(S.upd u').st.set t (some (.box cs)) }:=by rw [ybey];rfl
      rw [hupd]
      refine ⟨γ',φ',t::used,by simp [a1],b1,?_,?_,?_,?_,?_⟩
      ·simp only [RAV]
       intro o' ho'
       rw [b3] at ho';cases ho'
       exact ⟨⟨b,b2,rfl⟩,rfl⟩
      ·have:=a4.trans b4
       refine ⟨fun q hq=>this.out q ?_,fun q hq x hx=>?_,this.len⟩
       ·simp only [List.mem_cons,not_or] at hq;simp [hq]
       ·have:=this.inn q (by simp only [List.mem_cons] at hq;simp;exact hq.symm) x hx
        simp at this ⊢;exact this.symm
      ·intro q hq;simp [occAV] at hq;simp [hq]
      ·intro y hy q hq
       rcases List.mem_append.1 hy with hy | hy
       ·exact List.mem_cons_of_mem _ (a6 y hy q hq)
       ·simp at hy;subst hy;exact List.mem_cons_of_mem _ (a5 q (by simpa [occOb] using hq))
      ·intro y hy
       rcases List.mem_append.1 hy with hy | hy
       ·exact List.mem_cons_of_mem _ (a7 y hy)
       ·simp at hy;subst hy;simp
   | fn f ys =>
    simp only [putIV] at h
    cases hc:yaLy n ys fs with
    | none=>simp [hc] at h
    | some p =>
     obtain ⟨cs,u',f'⟩:=p
     simp [hc] at h
     obtain ⟨rfl,rfl,rfl⟩:=h
     simp only [RIV] at hv
     obtain ⟨vs,rfl,hvs⟩:=hv
     obtain ⟨γ',φ',used,a1,a2,a3,a4,a5,a6,a7⟩:=ih.2 _ _ _ _ _ _ _ _ _ _ hc hr hvs hnd hown hfs hno hocc
     exact ⟨γ',φ',used,a1,a2,by simp only [RAV];exact ⟨vs,rfl,a3⟩,a4,fun t ht=>a5 t (by simpa [occAV] using ht),a6,a7⟩
   | mp k e m =>
    cases fs with
    | nil=>simp [putIV] at h
    | cons t fs =>
     simp [putIV] at h
     obtain ⟨rfl,rfl,rfl⟩:=h
     refine leaf t fs (.mp k e m) rfl rfl rfl rfl (fun γ' φ' look h1 h2=>?_) (fun look γ' h1 h2=>?_)
     ·simp only [ROb];rw [h1,h2];exact hv
     ·simp only [RAV]
      intro o' ho'
      rw [h1] at ho';cases ho'
      exact ⟨h2.symm,rfl⟩
  ·cases ivs with
   | nil =>
    simp [yaLy] at h;obtain ⟨rfl,rfl,rfl⟩:=h
    simp only [RIVs] at hv
    obtain ⟨rfl,rfl⟩:=hv
    exact ⟨γ,φ,[],by simp,hr,by simp [RAVs],.refl,by simp [yady]⟩
   | cons iv ivs =>
    simp only [yaLy] at h
    cases hc:putIV n iv fs with
    | none=>simp [hc] at h
    | some p =>
     obtain ⟨c,u1,f1⟩:=p
     cases hc2:yaLy n ivs f1 with
     | none=>simp [hc,hc2] at h
     | some q =>
      obtain ⟨cs,u2,f2⟩:=q
      simp [hc,hc2] at h
      obtain ⟨rfl,rfl,rfl⟩:=h
      simp only [RIVs] at hv
      obtain ⟨v,vs',F1,F2,rfl,rfl,hv1,hv2⟩:=hv
      obtain ⟨hn1,hn2,hn3⟩:=nodup_append hnd
      obtain ⟨γ1,φ1,us1,a1,a2,a3,a4,a5,a6,a7⟩:=ih.1 _ _ _ _ _ _ _ _ _ _ hc hr hv1 hn1 (hown.sub (by simp +contextual)) hfs hno (fun y hy=>hocc y (by simp [hy]))
      rw [a1] at hfs
      obtain ⟨hf1,hf2,hf3⟩:=nodup_append hfs
      have hq:∀ y∈u2,y.1∈f1:=by
       obtain ⟨us2,c1,c2,c3,c4⟩:=(ycxy n).2 _ _ _ _ _ hc2
       intro y hy;rw [c1];simp [c4 y hy]
      obtain ⟨γ2,φ2,us2,b1,b2,b3,b4,b5,b6,b7⟩:=ih.2 _ _ _ _ _ _ _ _ _ _ hc2 a2 hv2 hn2 ((hown.sub (by simp +contextual)).only a4 hn3) hf2
       (fun t ht=>(a4.out t (fun hm=>hf3 t hm ht)).1.trans (hno t (by rw [a1];simp [ht])))
       (fun y hy=>by
        obtain ⟨h1,h2⟩:=hocc y (by simp [hy])
        refine ⟨by rw [yb4y];exact h1,?_⟩
        cases hq':occSt y.1 (S.upd u1) with
        | false=>rfl
        | true =>
         rcases yfky hq' with hq' | ⟨z,hz,hq'⟩
         ·rw [h2] at hq';cases hq'
         ·exact absurd (hq y hy) (hf3 _ (a6 z hz _ hq')))
      have hus:∀ t∈us2,t∈f1:=fun t ht=>by rw [b1];simp [ht]
      rw [ybey]
      refine ⟨γ2,φ2,us1++us2,by rw [a1,b1,List.append_assoc],b2,?_,a4.trans b4,?_,?_,?_⟩
      ·simp only [RAVs]
       exact ⟨v,vs',rfl,a3.only b4 (fun t ht hm=>hf3 t (a5 t ht) (hus t hm)),b3⟩
      ·intro t ht
       simp only [yady,Bool.or_eq_true] at ht
       exact List.mem_append.2 (ht.imp (a5 t) (b5 t))
      ·intro y hy t ht
       exact List.mem_append.2 ((List.mem_append.1 hy).imp (fun h=>a6 y h t ht) (fun h=>b6 y h t ht))
      ·intro y hy
       exact List.mem_append.2 ((List.mem_append.1 hy).imp (a7 y) (b7 y))
end Go.Am
