/- Part of an abstract machine for this program, with its soundness: AmRun. No condition: lemmas for the claim. -/
import Derived.Test.YtoajjnhmofegcaaGreatDoorAmCanon
set_option linter.unusedVariables false
set_option linter.unusedSimpArgs false
namespace Go.Am
open Go
variable {A:Nat→Type} {R:Type}
variable {w0 w w':World} {F0:List Nat} {X:Nat→Prop} {tmps:Array Value} {S S':St A} {res:R}
theorem yiYy (E:Env A) (hC:yahy E.C) (ops:List Oper) (i:Nat) (o:Oper) (S:St A) (flt:AV A→Upd A→List Nat→Bool) (k:St A→List Nat→Option R) :
  stepK E ops i o S flt k = (stepK E ops i o S flt pair2).bind fun p=>k p.1 p.2:=by
 rw [ybAy E hC ops i o S flt,ybAy E hC ops i o S flt pair2,Option.bind_assoc]
 congr 1
 funext p
 rw [yccy]
 rfl
theorem yo6y (E:Env A) (hC:yahy E.C) (ops:List Oper):∀ (l:List (Nat×Oper)) (S:St A) (k:St A→Option R),regK E ops l S k = (regK E ops l S some).bind k
 | [],S,k=>rfl
 | (i,o)::r,S,k=>by
  simp only [regK]
  rw [yiYy E hC ops i o S,yiYy E hC ops i o S _ (R:=St A),Option.bind_assoc]
  congr 1
  funext p
  exact yo6y E hC ops r p.1 k
theorem ymjy (E:Env A) (hC:yahy E.C) (ops:Array Oper) (al:List Nat):∀ (l:List (Nat×Nat)) (acc:List (Nat×List Nat)) (S:St A) (k:St A→Option R),drawK E ops al acc l S k = (drawK E ops al acc l S some).bind k
 | [],acc,S,k=>rfl
 | (i,b)::r,acc,S,k=>by
  simp only [drawK]
  cases ops[i]? with
  | none=>rfl
  | some o =>
   have ih:∀ acc,(fun p:St A×List Nat=>drawK E ops al acc r p.1 k) = fun p=>(drawK E ops al acc r p.1 some).bind k:=by
    intro acc
    funext p
    exact ymjy E hC ops al r acc p.1 k
   have main:∀ acc flt,stepK E ops.toList i o S flt (fun S' _=>drawK E ops al acc r S' k) = (stepK E ops.toList i o S flt (fun S' _=>drawK E ops al acc r S' some)).bind k:=by
    intro acc flt
    rw [yiYy E hC ops.toList i o S flt,yiYy E hC ops.toList i o S flt (R:=St A),Option.bind_assoc,ih]
   match b with
   | 0=>exact main _ _
   | 1=>simp only;rw [yccy,main];rfl
   | m + 2=>simp only;rw [yccy,main];rfl
theorem yaTy (h:Option Hint) (S:St A) (k:St A→Option R):canonAt h S k = (canonAt h S some).bind k:=by
 unfold canonAt
 cases h with
 | none=>rfl
 | some h=>simp only;cases canon h S <;> rfl
def pairE (e:Ex) (S:St A):Option (Ex×St A):=some (e,S)
theorem yiFy (body:{R:Type}→St A→(Ex→St A→Option R)→Option R) (hb:∀ (R:Type) S (K:Ex→St A→Option R),body S K = (body S pairE).bind fun p=>K p.1 p.2) :
  ∀ (n:Nat) (S:St A) (K:Ex→St A→Option R),aloop body n S K = (aloop body n S pairE).bind fun p=>K p.1 p.2
 | 0,S,K=>rfl
 | n + 1,S,K=>by
  simp only [aloop]
  rw [hb R]
  conv=>rhs;rw [hb (Ex×St A),Option.bind_assoc]
  congr 1
  funext p
  obtain ⟨e,S'⟩:=p
  cases e with
  | normal=>exact yiFy body hb n S' K
  | exit i=>rfl
  | ret=>rfl
def ycIy (f:Piece A):Prop:=∀ (R:Type) (S:St A) (K:Ex→St A→Option R),f S K = (f S pairE).bind fun p=>K p.1 p.2
theorem ycIy.mono {f:Piece A} (hf:ycIy f) {R':Type} {K:Ex→St A→Option R} {K':Ex→St A→Option R'} {res':R'} (h:f S K = some res) (hk:∀ e S',K e S' = some res→K' e S' = some res'):f S K' = some res':=by
 rw [hf] at h ⊢
 cases hp:f S pairE with
 | none=>rw [hp] at h;cases h
 | some p=>rw [hp] at h;exact hk _ _ h
theorem yhwy {f:Piece A} (hf:ycIy f) (h hx:Option Hint):ycIy (yb1y f h hx):=by
 intro R S K
 unfold yb1y
 rw [hf R]
 conv=>rhs;rw [hf (Ex×St A),Option.bind_assoc]
 congr 1
 funext p
 obtain ⟨e,S'⟩:=p
 cases e with
 | normal =>
  simp only
  rw [yaTy,yaTy _ _ (fun S1=>pairE Ex.normal S1),Option.bind_assoc]
  rfl
 | exit i =>
  simp only
  rw [yaTy,yaTy _ _ (fun S1=>pairE (Ex.exit i) S1),Option.bind_assoc]
  rfl
 | ret =>
  simp only
  rw [yaTy,yaTy _ _ (fun S1=>pairE Ex.ret S1),Option.bind_assoc]
  rfl
def yasy (E:Env A) (n:Nat):Code→Prop
 | .seq a b=>yasy E n a∧yasy E n b∧∀ f:Piece A,(yagy b).bind E.cutS = some f→ycIy f∧∀ S p,f S pairE = some p→(aexec E n b S fun e S'=>canonAt ((yagy b).bind E.exitS) S' fun S1=>pairE e S1) = some p
 | .cond _ a b=>yasy E n a∧yasy E n b
 | .block _ b=>yasy E n b
 | .loop b=>yasy E n b∧∀ f:Piece A,(yagy b).bind E.cutL = some f→ycIy f∧∀ S p,f S pairE = some p →
   ∃ m,aloop (fun S K=>yb1y (fun S _ K=>aexec E n b S K) ((yagy b).bind E.loopH) ((yagy b).bind E.exitH) S K) m S pairE = some p
 | _=>True
theorem ydOy (E:Env A) (hC:yahy E.C) (n:Nat):∀ (c:Code),yasy E n c→∀ (R:Type) (S:St A) (K:Ex→St A→Option R),aexec E n c S K = (aexec E n c S pairE).bind fun p=>K p.1 p.2:=by
 intro c
 induction c with
 | skip=>intro _ R S K;rfl
 | region id ops draw =>
  intro hc R S K
  cases draw with
  | false =>
   simp only [aexec]
   rw [yo6y E hC,yo6y E hC _ _ _ (fun S'=>pairE Ex.normal S'),Option.bind_assoc]
   rfl
  | true =>
   simp only [aexec]
   cases ybJy ops ops.size (Array.replicate ops.size false) with
   | none=>rfl
   | some l =>
    simp only
    rw [ymjy E hC,ymjy E hC _ _ _ _ _ (fun S'=>pairE Ex.normal S'),Option.bind_assoc]
    rfl
 | seq a b iha ihb =>
  intro hc R S K
  simp only [aexec]
  simp only [yasy] at hc
  obtain ⟨hca,hcb,hcut⟩:=hc
  rw [iha hca R]
  conv=>rhs;rw [iha hca (Ex×St A),Option.bind_assoc]
  congr 1
  funext p
  obtain ⟨e,S'⟩:=p
  cases e with
  | normal =>
   simp only
   cases hf:(yagy b).bind E.cutS with
   | none =>
    simp only
    rw [yaTy,yaTy _ _ (fun S''=>aexec E n b S'' pairE),Option.bind_assoc]
    congr 1
    funext S''
    exact ihb hcb R S'' K
   | some f =>
    simp only
    rw [yaTy,yaTy _ _ (fun S''=>f S'' pairE),Option.bind_assoc]
    congr 1
    funext S''
    exact (hcut f hf).1 R S'' K
  | exit i=>rfl
  | ret=>rfl
 | cond c a b iha ihb =>
  intro hc R S K
  simp only [aexec]
  cases yafy S.fr c with
  | d y =>
   cases y <;> simp only [Option.bind_none]
   rename_i t
   simp only [yasy] at hc
   cases t
   ·exact ihb hc.2 R S K
   ·exact iha hc.1 R S K
  | _=>rfl
 | block id b ih =>
  intro hc R S K
  simp only [aexec]
  simp only [yasy] at hc
  rw [ih hc R]
  conv=>rhs;rw [ih hc (Ex×St A),Option.bind_assoc]
  congr 1
  funext p
  obtain ⟨e,S'⟩:=p
  cases e with
  | normal=>rfl
  | exit i=>simp only [pairE];split <;> rfl
  | ret=>rfl
 | loop b ih =>
  intro hc R S K
  simp only [aexec]
  simp only [yasy] at hc
  obtain ⟨hcb,hcut⟩:=hc
  cases hf:(yagy b).bind E.cutL with
  | none =>
   simp only
   rw [yaTy,yaTy _ _ (fun S0=>aloop _ n S0 pairE),Option.bind_assoc]
   congr 1
   funext S0
   exact yiFy (fun S K=>yb1y (fun S _ K=>aexec E n b S K) ((yagy b).bind E.loopH) ((yagy b).bind E.exitH) S K) (fun R S K=>yhwy (fun R S K=>ih hcb R S K) _ _ R S K) n S0 K
  | some f =>
   simp only
   rw [yaTy,yaTy _ _ (fun S0=>f S0 pairE),Option.bind_assoc]
   congr 1
   funext S0
   exact (hcut f hf).1 R S0 K
 | exit id=>intro _ R S K;rfl
 | ret=>intro _ R S K;rfl
 | _=>intro _ R S K;rfl
theorem yBAy (E:Env A) (hC:yahy E.C) (fn:Func) (code:Code) (nst:Nat) (argTags:List Nat) (sh:List Shape) (n:Nat) (hcut:yasy E n code):yaIy (abody E fn code nst argTags sh n):=by
 intro args R k
 unfold abody
 cases yaLy 64 args argTags with
 | none=>rfl
 | some p =>
  obtain ⟨vs,u,fs⟩:=p
  simp only [yccy,Option.bind_none]
  congr 1
  rw [ydOy E hC n code hcut R,ydOy E hC n code hcut (IV A×List (IV A)),Option.bind_assoc]
  congr 1
  funext p
  obtain ⟨e,S⟩:=p
  have hfin:yejy E sh fn.results.toList vs.length S k = (yejy E sh fn.results.toList vs.length S (fun r ys=>some (r,ys))).bind fun p=>k p.1 p.2:=by
   unfold yejy
   repeat' (first | rfl | simp only [yeSy,Option.bind_none,Option.bind_some] | split)
  cases e with
  | normal=>exact hfin
  | ret=>exact hfin
  | exit i=>rfl
def Ex.toExit:Ex→Exit
 | .normal=>.normal
 | .exit i=>.exit i
 | .ret=>.ret
theorem ypty {P:Program} {Q:Exit→Act→World→Prop} {c:Code} (I:Nat→Act→World→Prop) (hz:∀ a w,¬ I 0 a w)
  (round:∀ n a w,I (n + 1) a w→c.wp P (Exit.then (fun a' w'=>I n a' w') Q) a w) {n:Nat} {a:Act} {w:World} (h₀:I n a w):(Code.loop c).wp P Q a w:=by
 intro b k cs
 have key:∀ n a w,I n a w→∃ e a' w',Q e a' w'∧Arrives P (lone (b.at a (.code c::.inLoop c::k)) cs w) b k cs e a' w':=by
  intro n
  induction n with
  | zero=>intro a w h;exact absurd h (hz a w)
  | succ n ih =>
   intro a w hI
   obtain ⟨e,a₁,w₁,hq,harr⟩:=round n a w hI b (.inLoop c::k) cs
   cases e with
   | normal =>
    obtain ⟨e₂,a₂,w₂,hq₂,harr₂⟩:=ih a₁ w₁ hq
    exact ⟨e₂,a₂,w₂,hq₂,.of_steps (Steps.trans harr (.one step_inLoop)) harr₂⟩
   | exit id=>exact ⟨_,a₁,w₁,hq,.pass (x:=.inLoop c) rfl (fun _ _=>.inl (by simp)) harr⟩
   | goto l=>exact ⟨_,a₁,w₁,hq,.pass (x:=.inLoop c) rfl (fun _ _=>.inl (by simp)) harr⟩
   | ret=>exact ⟨_,a₁,w₁,hq,.pass (x:=.inLoop c) rfl (fun _ _=>.inl (by simp)) harr⟩
   | panic ch=>exact ⟨_,a₁,w₁,hq,.pass (x:=.inLoop c) rfl (fun _ _=>.inl (by simp)) harr⟩
   | outgrown=>exact ⟨_,a₁,w₁,hq,.pass (x:=.inLoop c) rfl (fun _ _=>.inl (by simp)) harr⟩
 obtain ⟨e,a',w',hq,harr⟩:=key n a w h₀
 exact ⟨e,a',w',hq,.of_steps (.one step_loop) harr⟩
theorem Rels.canonAt {E:Env A} {us:Array Value} {h:Option Hint} {k:St A→Option R} (hr:Rels E w0 F0 X us w tmps S) (hk:canonAt h S k = some res):∃ S',k S' = some res∧Rels E w0 F0 X us w tmps S':=by
 unfold Am.canonAt at hk
 cases h with
 | none=>exact ⟨S,hk,hr⟩
 | some h =>
  simp only at hk
  cases hc:canon h S with
  | none=>simp [hc] at hk
  | some S' =>
   simp only [hc] at hk
   obtain ⟨⟨γ,φ,av,h1⟩,h2⟩:=hr
   obtain ⟨γ',φ',av',h3⟩:=yxfy h1 hc
   exact ⟨S',hk,⟨γ',φ',av',h3⟩,h2⟩
theorem Rels.drew {E:Env A} {us:Array Value} (hr:Rels E w0 F0 X us w tmps S) (n:Nat) (hn:w.drawn≤n):Rels E w0 F0 X us { w with drawn:=n } tmps S:=by
 obtain ⟨⟨γ,φ,av,h1⟩,h2⟩:=hr
 exact ⟨⟨γ,φ,av,h1.heap rfl rfl ⟨rfl,fun _=>hn⟩ rfl⟩,h2⟩
theorem yiey {ops:Array Oper}:∀ p∈(ops.toList.zipIdx.map fun (o,i)=>(i,o)),ops[p.1]? = some p.2:=by
 intro p hp
 simp only [List.mem_map] at hp
 obtain ⟨q,hq,rfl⟩:=hp
 have:=List.mem_zipIdx hq
 simp only [Nat.zero_add] at this
 obtain ⟨h1,h2,h3⟩:=this
 simp at h2 h3
 simp [h3,h2]
theorem yfgy {ops:Array Oper}:(ops.toList.zipIdx.map fun (o,i)=>(i,o)).map (·.1) = List.range ops.size:=by
 rw [List.map_map]
 have:((fun p:Nat×Oper=>p.1) ∘ fun (x:Oper×Nat)=>(x.2,x.1)) = Prod.snd:=rfl
 have h2:((fun x:Nat×Oper=>x.1) ∘ fun (x:Oper×Nat)=>match x with | (o,i)=>(i,o)) = Prod.snd:=by funext x;rfl
 rw [h2,List.zipIdx_map_snd]
 simp [List.range_eq_range']
theorem yi8y (E:Env A) (hE:EnvOk E) (hC:yahy E.C) (hm:E.P.follows .mixedOrders = true) {us:Array Value} (n:Nat):∀ (c:Code),yasy E n c→∀ (S:St A) (K:Ex→St A→Option R) (tmps:Array Value) (w:World) (Q:Exit→Act→World→Prop),
  aexec E n c S K = some res→Rels E w0 F0 X us w tmps S→(∀ e S' tmps' w',K e S' = some res→Rels E w0 F0 X us w' tmps' S'→Q e.toExit ⟨tmps',[]⟩ w')→c.wp E.P Q ⟨tmps,[]⟩ w:=by
 intro c
 induction c with
 | skip=>intro _ S K tmps w Q hk hr hq;exact wp_skip (hq .normal S _ _ hk hr)
 | region id ops draw =>
  intro hc S K tmps w Q hk hr hq
  cases draw with
  | false =>
   simp only [aexec] at hk
   refine wp_region ?_
   rw [← yfgy]
   exact yqDy E hE yiey hr hk (fun S' tmps' w' h1 h2=>hq .normal S' _ _ h1 h2)
  | true =>
   simp only [aexec] at hk
   cases hd:ybJy ops ops.size (Array.replicate ops.size false) with
   | none=>simp [hd] at hk
   | some l =>
    simp only [hd] at hk
    obtain ⟨rd,_,hany⟩:=yrTy E hC _ _ _ _ _ (ycVy.start _) hd hk
    exact wp_region_any hm (AAny.sound E hE _ _ _ _ _ hany (hr.drew _ (by first | exact Nat.le_succ _ | omega)) (fun S' tmps' w' h1 h2=>hq .normal S' _ _ h1 h2))
 | seq a b iha ihb =>
  intro hc S K tmps w Q hk hr hq
  simp only [aexec] at hk
  simp only [yasy] at hc
  obtain ⟨hca,hcb,hcut⟩:=hc
  refine wp_seq (iha hca S _ tmps w _ hk hr (fun e S' tmps' w' h1 h2=>?_))
  cases e with
  | normal =>
   obtain ⟨S'',h3,h4⟩:=h2.canonAt h1
   cases hf:(yagy b).bind E.cutS with
   | none=>simp only [hf] at h3;exact ihb hcb S'' K _ _ Q h3 h4 hq
   | some f =>
    simp only [hf] at h3
    obtain ⟨hn,hu⟩:=hcut f hf
    rw [hn] at h3
    cases hp:f S'' pairE with
    | none=>rw [hp] at h3;cases h3
    | some p =>
     rw [hp] at h3
     refine ihb hcb S'' (fun e S'=>canonAt ((yagy b).bind E.exitS) S' fun S1=>K e S1) _ _ Q ?_ h4 (fun e S' tmps' w' h5 h6=>?_)
     ·have h7:=hu S'' p hp
      rw [ydOy E hC n b hcb] at h7 ⊢
      cases hq:aexec E n b S'' pairE with
      | none=>rw [hq] at h7;cases h7
      | some q =>
       rw [hq] at h7
       simp only [Option.bind_some] at h7 ⊢
       rw [yaTy] at h7 ⊢
       cases hx:canonAt ((yagy b).bind E.exitS) q.2 some with
       | none=>rw [hx] at h7;cases h7
       | some S1 =>
        rw [hx] at h7
        simp only [Option.bind_some,pairE,Option.some.injEq] at h7 ⊢
        rw [← h7] at h3
        exact h3
     ·obtain ⟨S1,h7,h8⟩:=h6.canonAt h5
      exact hq e S1 _ _ h7 h8
  | exit i=>exact hq (.exit i) S' _ _ h1 h2
  | ret=>exact hq .ret S' _ _ h1 h2
 | cond c a b iha ihb =>
  intro hc S K tmps w Q hk hr hq
  simp only [aexec] at hk
  simp only [yasy] at hc
  have hct:∃ t,yafy S.fr c = .d (.bool t):=by
   cases hv:yafy S.fr c with
   | d y=>rw [hv] at hk;cases y <;> first | exact ⟨_,rfl⟩ | cases hk
   | _=>rw [hv] at hk;cases hk
  obtain ⟨t,ht⟩:=hct
  rw [ht] at hk
  have hval:Act.eval ⟨tmps,[]⟩ c = .bool t:=by
   obtain ⟨⟨γ,φ,av,h1⟩,_⟩:=hr
   have:=h1.eval [] c
   rw [ht] at this
   simpa only [RAV,DR.bool] using this
  refine wp_cond hval ?_
  cases t with
  | true=>exact iha hc.1 S K _ _ Q hk hr hq
  | false=>exact ihb hc.2 S K _ _ Q hk hr hq
 | block id b ih =>
  intro hc S K tmps w Q hk hr hq
  simp only [aexec] at hk
  simp only [yasy] at hc
  refine wp_block (ih hc S _ tmps w _ hk hr (fun e S' tmps' w' h1 h2=>?_))
  cases e with
  | normal=>exact hq .normal S' _ _ h1 h2
  | ret=>exact hq .ret S' _ _ h1 h2
  | exit i =>
   simp only at h1
   simp only [Ex.toExit,Exit.inBlock]
   split at h1
   ·rename_i hi
    rw [if_pos hi]
    exact hq .normal S' _ _ h1 h2
   ·rename_i hi
    rw [if_neg hi]
    exact hq (.exit i) S' _ _ h1 h2
 | loop b ih =>
  intro hc S K tmps w Q hk hr hq
  simp only [aexec] at hk
  simp only [yasy] at hc
  obtain ⟨hcb,hcut⟩:=hc
  have hk':∃ S0,Rels E w0 F0 X us w tmps S0∧∃ m,aloop (fun S K=>yb1y (fun S _ K=>aexec E n b S K) ((yagy b).bind E.loopH) ((yagy b).bind E.exitH) S K) m S0 K = some res:=by
   cases hf:(yagy b).bind E.cutL with
   | none =>
    simp only [hf] at hk
    obtain ⟨S0,h3,h4⟩:=hr.canonAt hk
    exact ⟨S0,h4,n,h3⟩
   | some f =>
    simp only [hf] at hk
    obtain ⟨S0,h3,h4⟩:=hr.canonAt hk
    obtain ⟨hn,hu⟩:=hcut f hf
    rw [hn] at h3
    cases hp:f S0 pairE with
    | none=>rw [hp] at h3;cases h3
    | some p =>
     rw [hp] at h3
     obtain ⟨m,hm'⟩:=hu S0 p hp
     refine ⟨S0,h4,m,?_⟩
     rw [yiFy (fun S K=>yb1y (fun S _ K=>aexec E n b S K) ((yagy b).bind E.loopH) ((yagy b).bind E.exitH) S K) (fun R S K=>yhwy (fun R S K=>ydOy E hC n b hcb R S K) _ _ R S K),hm']
     exact h3
  obtain ⟨S0,h4,m,h3⟩:=hk'
  refine ypty (n:=m) (fun m a w=>a.defers = []∧∃ S,Rels E w0 F0 X us w a.tmps S∧aloop (fun S K=>yb1y (fun S _ K=>aexec E n b S K) ((yagy b).bind E.loopH) ((yagy b).bind E.exitH) S K) m S K = some res) (fun a w h=>by obtain ⟨_,S,_,h⟩:=h;simp [aloop] at h) ?_ ⟨rfl,S0,h4,h3⟩
  rintro m ⟨tm,ds⟩ w1 ⟨hds,S1,hr1,hk1⟩
  simp only at hds
  subst hds
  simp only [aloop,yb1y] at hk1
  refine ih hcb S1 _ _ _ _ hk1 hr1 (fun e S' tmps' w' h1 h2=>?_)
  cases e with
  | normal =>
   obtain ⟨S2,h5,h6⟩:=h2.canonAt h1
   exact ⟨rfl,S2,h6,h5⟩
  | exit i =>
   obtain ⟨S2,h5,h6⟩:=h2.canonAt h1
   exact hq (.exit i) S2 _ _ h5 h6
  | ret =>
   obtain ⟨S2,h5,h6⟩:=h2.canonAt h1
   exact hq .ret S2 _ _ h5 h6
 | exit id=>intro _ S K tmps w Q hk hr hq;exact wp_exit (hq (.exit id) S _ _ hk hr)
 | ret=>intro _ S K tmps w Q hk hr hq;exact wp_ret (hq .ret S _ _ hk hr)
 | _=>intro _ S K tmps w Q hk hr hq;simp only [aexec] at hk;cases hk
end Go.Am
