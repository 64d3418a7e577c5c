/- Part of an abstract machine for this program, with its soundness: AmIn. No condition: lemmas for the claim. -/
import Derived.Test.YtoajjnhmofegcaaGreatDoorAmRun
import Derived.OrdersIn
import Derived.RangeFuncIn
import Derived.RangeFuncCalls
import Derived.Test.YtoajjnhmofegcaaGreatDoorAmRange
import Derived.RangeFuncLeaves
import Derived.RangeFuncRecord
set_option linter.unusedVariables false
set_option linter.unusedSimpArgs false
namespace Go.Am
open Go
variable {A:Nat→Type} {R:Type} {P:Program}
variable {T:Ty A} {w0 w w':World} {F0:List Nat} {X:Nat→Prop} {γ γ':Nat→Value} {φ φ':Nat→List Nat} {av av':Nat→Prop} {tmps:Array Value} {S S':St A} {res:R}
structure Open (P:Program) (F:Fence):Prop where
 fn:∀ f,F.fn f
 depth:F.depth = none
 call:∀ n f args w R,Calls P f args w R→CallsIn F n P f args w R
theorem yg1y:Open P Fence.wide:=⟨fun _=>trivial,rfl,fun n f args w R h=>callsIn_wide.2 h⟩
theorem yq0y (l:Nat):Open P (Fence.wide.inRound l):=⟨fun _=>trivial,rfl,fun n f args w R h=>CallsIn.inRound l (callsIn_wide.2 h)⟩
section steps
variable {F:Fence} {nf:Nat}
theorem RanK.wpIn {o:Oper} {a:Act} {K:Act→World→Prop} (hF:Open P F) (hnd:∀ c,o.op≠.defer c) (h:RanK P o a w K) (Q:Exit→Act→World→Prop):o.wpIn F nf P a w K Q:=by
 refine ⟨fun f _=>hF.fn f,?_⟩
 rw [Oper.semAt_eq _ _ _ hnd]
 rcases h with ⟨u,w',h1,h2⟩ | ⟨w',h1,h2⟩ | ⟨f,us,h1,h2⟩
 ·rw [h1];exact h2
 ·rw [h1];exact h2
 ·rw [h1]
  exact ⟨fun hd=>(by rw [hF.depth] at hd;cases hd),hF.call _ _ _ _ _ (Calls.mono h2 (by rintro e w' ⟨v,rfl,h3⟩;exact h3))⟩
theorem ywfy (E:Env A) (hE:EnvOk E) (hF:Open E.P F) (ds:List Deferred) {us:Array Value} {ops:Array Oper} {i:Nat} {o:Oper} (hi:ops[i]? = some o) {k:St A→List Nat→Option R} (h:Rels E w0 F0 X us w tmps S)
  {flt:AV A→Upd A→List Nat→Bool} (hk:stepK E ops.toList i o S flt k = some res) {Q:Exit→Act→World→Prop} {K:Act→World→Prop}
  (hn:∀ S' ts tmps' w',k S' ts = some res→Rels E w0 F0 X us w' tmps' S'→K ⟨tmps',ds⟩ w'):wpOpIn F nf E.P ops Q i K ⟨tmps,ds⟩ w:=by
 unfold wpOpIn
 simp only [hi]
 rcases ypwy E hE hi h hk ds hn with ⟨h1,hnd,h2⟩ | ⟨h1,h2⟩
 ·rw [if_pos h1];exact h2.wpIn hF hnd Q
 ·rw [if_neg (by rw [h1];simp)];exact ⟨fun f _=>hF.fn f,h2⟩
theorem yyfy (E:Env A) (hE:EnvOk E) (hF:Open E.P F) (ds:List Deferred) {us:Array Value} {ops:Array Oper} {Q:Exit→Act→World→Prop}:∀ {l:List (Nat×Oper)} {k:St A→Option R} {S:St A} {tmps:Array Value} {w:World},
  (∀ p∈l,ops[p.1]? = some p.2)→Rels E w0 F0 X us w tmps S→regK E ops.toList l S k = some res →
  (∀ S' tmps' w',k S' = some res→Rels E w0 F0 X us w' tmps' S'→Q .normal ⟨tmps',ds⟩ w')→wpOpsIn F nf E.P ops Q (l.map (·.1)) ⟨tmps,ds⟩ w
 | [],k,S,tmps,w,hl,h,hk,hq=>by
  simp only [regK] at hk
  simpa [wpOpsIn] using hq _ _ _ hk h
 | (i,o)::r,k,S,tmps,w,hl,h,hk,hq=>by
  simp only [regK] at hk
  simp only [List.map_cons]
  rw [wpOpsIn_cons]
  exact ywfy E hE hF ds (hl (i,o) (by simp)) h hk (fun S' ts tmps' w' h1 h2=>yyfy E hE hF ds (fun p hp=>hl p (by simp [hp])) h2 h1 hq)
theorem AAny.soundIn (E:Env A) (hE:EnvOk E) (hF:Open E.P F) (ds:List Deferred) {us:Array Value} {ops:Array Oper} {al:List Nat} {rd:Nat→List Nat} {Q:Exit→Act→World→Prop} {Q':St A→Prop} :
  ∀ (n:Nat) (L:Array Bool) (S:St A) (tmps:Array Value) (w:World),AAny E ops al rd Q' n L S→Rels E w0 F0 X us w tmps S →
  (∀ S' tmps' w',Q' S'→Rels E w0 F0 X us w' tmps' S'→Q .normal ⟨tmps',ds⟩ w')→wpAnyIn F nf E.P .any ops Q n L ⟨tmps,ds⟩ w:=by
 intro n
 induction n with
 | zero =>
  intro L S tmps w h hr hq
  have h1:yaqy ops L = []∧Q' S:=h
  exact ⟨h1.1,hq _ _ _ h1.2 hr⟩
 | succ n ih =>
  intro L S tmps w h hr hq
  have h':(yaqy ops L = []→Q' S)∧∀ i∈yaqy ops L,∀ o,ops[i]? = some o→∃ S' ts,stepK E ops.toList i o S (fltJ E ops al rd L i S) pair2 = some (S',ts)∧AAny E ops al rd Q' n (L.setIfInBounds i true) S':=h
  refine ⟨fun h0=>hq _ _ _ (h'.1 h0) hr,fun i hi=>?_⟩
  obtain ⟨hun,o,ho,_⟩:=mem_ready.1 hi
  obtain ⟨S',ts,h1,h2⟩:=h'.2 i hi o ho
  refine ywfy E hE hF ds ho hr h1 (fun S1 ts1 tmps1 w1 h3 h4=>?_)
  simp only [pair2,Option.some.injEq,Prod.mk.injEq] at h3
  obtain ⟨rfl,rfl⟩:=h3
  exact ih _ _ _ _ h2 h4 hq
theorem ymZy {Q:Exit→Act→World→Prop} {c:Code} (I:Nat→Act→World→Prop) (hz:∀ a w,¬ I 0 a w)
  (round:∀ n a w,I (n + 1) a w→c.wpIn F nf P (Exit.then (fun a' w'=>I n a' w') Q) a w) {n:Nat} {a:Act} {w:World} (h₀:I n a w):(Code.loop c).wpIn F nf P Q a w:=by
 intro b k cs hro hb hr
 have key:∀ n a w,I n a w→∃ e a' w',Q e a' w'∧ArrivesIn (Machine.fenced P F) P (lone (b.atR a (.code c::.inLoop c::k)) cs w) b k cs e a' w':=by
  intro n
  induction n with
  | zero=>intro a w h;exact absurd h (hz a w)
  | succ n ih =>
   intro a w hI
   obtain ⟨e,a₁,w₁,hq,harr⟩:=round n a w hI b (.inLoop c::k) cs hro hb hr
   cases e with
   | normal =>
    obtain ⟨e₂,a₂,w₂,hq₂,harr₂⟩:=ih a₁ w₁ hq
    exact ⟨e₂,a₂,w₂,hq₂,.of_steps (StepsIn.trans harr (.one (fenced_calm hb hr rfl) stepR_inLoop)) harr₂⟩
   | exit id=>exact ⟨_,a₁,w₁,hq,.pass (x:=.inLoop c) rfl (fun _ _=>.inl (by simp)) harr⟩
   | goto l=>exact ⟨_,a₁,w₁,hq,.pass (x:=.inLoop c) rfl (fun _ _=>.inl (by simp)) harr⟩
   | ret=>exact ⟨_,a₁,w₁,hq,.pass (x:=.inLoop c) rfl (fun _ _=>.inl (by simp)) harr⟩
   | panic ch=>exact ⟨_,a₁,w₁,hq,.pass (x:=.inLoop c) rfl (fun _ _=>.inl (by simp)) harr⟩
   | outgrown=>exact ⟨_,a₁,w₁,hq,.pass (x:=.inLoop c) rfl (fun _ _=>.inl (by simp)) harr⟩
 obtain ⟨e,a',w',hq,harr⟩:=key n a w h₀
 exact ⟨e,a',w',hq,.of_steps (.one (fenced_calm hb hr rfl) stepR_loop) harr⟩
end steps
theorem ygoy {F:Fence} {nf:Nat} (E:Env A) (hF:Open E.P F) (ds:List Deferred) (hE:EnvOk E) (hC:yahy E.C) (hm:E.P.follows .mixedOrders = true) {us:Array Value} (n:Nat):∀ (c:Code),yasy E n c→∀ (S:St A) (K:Ex→St A→Option R) (tmps:Array Value) (w:World) (Q:Exit→Act→World→Prop),
  aexec E n c S K = some res→Rels E w0 F0 X us w tmps S→(∀ e S' tmps' w',K e S' = some res→Rels E w0 F0 X us w' tmps' S'→Q e.toExit ⟨tmps',ds⟩ w')→c.wpIn F nf E.P Q ⟨tmps,ds⟩ w:=by
 intro c
 induction c with
 | skip=>intro _ S K tmps w Q hk hr hq;exact wpIn_skip (hq .normal S _ _ hk hr)
 | region id ops draw =>
  intro hc S K tmps w Q hk hr hq
  cases draw with
  | false =>
   simp only [aexec] at hk
   refine wpIn_region ?_
   rw [← yfgy]
   exact yyfy E hE hF ds yiey hr hk (fun S' tmps' w' h1 h2=>hq .normal S' _ _ h1 h2)
  | true =>
   simp only [aexec] at hk
   cases hd:ybJy ops ops.size (Array.replicate ops.size false) with
   | none=>simp [hd] at hk
   | some l =>
    simp only [hd] at hk
    obtain ⟨rd,_,hany⟩:=yrTy E hC _ _ _ _ _ (ycVy.start _) hd hk
    exact wpIn_region_any hm (AAny.soundIn E hE hF ds _ _ _ _ _ hany (hr.drew _ (by first | exact Nat.le_succ _ | omega)) (fun S' tmps' w' h1 h2=>hq .normal S' _ _ h1 h2))
 | seq a b iha ihb =>
  intro hc S K tmps w Q hk hr hq
  simp only [aexec] at hk
  simp only [yasy] at hc
  obtain ⟨hca,hcb,hcut⟩:=hc
  refine wpIn_seq (iha hca S _ tmps w _ hk hr (fun e S' tmps' w' h1 h2=>?_))
  cases e with
  | normal =>
   obtain ⟨S'',h3,h4⟩:=h2.canonAt h1
   cases hf:(yagy b).bind E.cutS with
   | none=>simp only [hf] at h3;exact ihb hcb S'' K _ _ Q h3 h4 hq
   | some f =>
    simp only [hf] at h3
    obtain ⟨hn,hu⟩:=hcut f hf
    rw [hn] at h3
    cases hp:f S'' pairE with
    | none=>rw [hp] at h3;cases h3
    | some p =>
     rw [hp] at h3
     refine ihb hcb S'' (fun e S'=>canonAt ((yagy b).bind E.exitS) S' fun S1=>K e S1) _ _ Q ?_ h4 (fun e S' tmps' w' h5 h6=>?_)
     ·have h7:=hu S'' p hp
      rw [ydOy E hC n b hcb] at h7 ⊢
      cases hq:aexec E n b S'' pairE with
      | none=>rw [hq] at h7;cases h7
      | some q =>
       rw [hq] at h7
       simp only [Option.bind_some] at h7 ⊢
       rw [yaTy] at h7 ⊢
       cases hx:canonAt ((yagy b).bind E.exitS) q.2 some with
       | none=>rw [hx] at h7;cases h7
       | some S1 =>
        rw [hx] at h7
        simp only [Option.bind_some,pairE,Option.some.injEq] at h7 ⊢
        rw [← h7] at h3
        exact h3
     ·obtain ⟨S1,h7,h8⟩:=h6.canonAt h5
      exact hq e S1 _ _ h7 h8
  | exit i=>exact hq (.exit i) S' _ _ h1 h2
  | ret=>exact hq .ret S' _ _ h1 h2
 | cond c a b iha ihb =>
  intro hc S K tmps w Q hk hr hq
  simp only [aexec] at hk
  simp only [yasy] at hc
  have hct:∃ t,yafy S.fr c = .d (.bool t):=by
   cases hv:yafy S.fr c with
   | d y=>rw [hv] at hk;cases y <;> first | exact ⟨_,rfl⟩ | cases hk
   | _=>rw [hv] at hk;cases hk
  obtain ⟨t,ht⟩:=hct
  rw [ht] at hk
  have hval:Act.eval ⟨tmps,ds⟩ c = .bool t:=by
   obtain ⟨⟨γ,φ,av,h1⟩,_⟩:=hr
   have:=h1.eval ds c
   rw [ht] at this
   simpa only [RAV,DR.bool] using this
  refine wpIn_cond hval ?_
  cases t with
  | true=>exact iha hc.1 S K _ _ Q hk hr hq
  | false=>exact ihb hc.2 S K _ _ Q hk hr hq
 | block id b ih =>
  intro hc S K tmps w Q hk hr hq
  simp only [aexec] at hk
  simp only [yasy] at hc
  refine wpIn_block (ih hc S _ tmps w _ hk hr (fun e S' tmps' w' h1 h2=>?_))
  cases e with
  | normal=>exact hq .normal S' _ _ h1 h2
  | ret=>exact hq .ret S' _ _ h1 h2
  | exit i =>
   simp only at h1
   simp only [Ex.toExit,Exit.inBlock]
   split at h1
   ·rename_i hi
    rw [if_pos hi]
    exact hq .normal S' _ _ h1 h2
   ·rename_i hi
    rw [if_neg hi]
    exact hq (.exit i) S' _ _ h1 h2
 | loop b ih =>
  intro hc S K tmps w Q hk hr hq
  simp only [aexec] at hk
  simp only [yasy] at hc
  obtain ⟨hcb,hcut⟩:=hc
  have hk':∃ S0,Rels E w0 F0 X us w tmps S0∧∃ m,aloop (fun S K=>yb1y (fun S _ K=>aexec E n b S K) ((yagy b).bind E.loopH) ((yagy b).bind E.exitH) S K) m S0 K = some res:=by
   cases hf:(yagy b).bind E.cutL with
   | none =>
    simp only [hf] at hk
    obtain ⟨S0,h3,h4⟩:=hr.canonAt hk
    exact ⟨S0,h4,n,h3⟩
   | some f =>
    simp only [hf] at hk
    obtain ⟨S0,h3,h4⟩:=hr.canonAt hk
    obtain ⟨hn,hu⟩:=hcut f hf
    rw [hn] at h3
    cases hp:f S0 pairE with
    | none=>rw [hp] at h3;cases h3
    | some p =>
     rw [hp] at h3
     obtain ⟨m,hm'⟩:=hu S0 p hp
     refine ⟨S0,h4,m,?_⟩
     rw [yiFy (fun S K=>yb1y (fun S _ K=>aexec E n b S K) ((yagy b).bind E.loopH) ((yagy b).bind E.exitH) S K) (fun R S K=>yhwy (fun R S K=>ydOy E hC n b hcb R S K) _ _ R S K),hm']
     exact h3
  obtain ⟨S0,h4,m,h3⟩:=hk'
  refine ymZy (n:=m) (fun m a w=>a.defers = ds∧∃ S,Rels E w0 F0 X us w a.tmps S∧aloop (fun S K=>yb1y (fun S _ K=>aexec E n b S K) ((yagy b).bind E.loopH) ((yagy b).bind E.exitH) S K) m S K = some res) (fun a w h=>by obtain ⟨_,S,_,h⟩:=h;simp [aloop] at h) ?_ ⟨rfl,S0,h4,h3⟩
  rintro m ⟨tm,ds'⟩ w1 ⟨hds,S1,hr1,hk1⟩
  simp only at hds
  subst hds
  simp only [aloop,yb1y] at hk1
  refine ih hcb S1 _ _ _ _ hk1 hr1 (fun e S' tmps' w' h1 h2=>?_)
  cases e with
  | normal =>
   obtain ⟨S2,h5,h6⟩:=h2.canonAt h1
   exact ⟨rfl,S2,h6,h5⟩
  | exit i =>
   obtain ⟨S2,h5,h6⟩:=h2.canonAt h1
   exact hq (.exit i) S2 _ _ h5 h6
  | ret =>
   obtain ⟨S2,h5,h6⟩:=h2.canonAt h1
   exact hq .ret S2 _ _ h5 h6
 | exit id=>intro _ S K tmps w Q hk hr hq;exact wpIn_exit (hq (.exit id) S _ _ hk hr)
 | ret=>intro _ S K tmps w Q hk hr hq;exact wpIn_ret (hq .ret S _ _ hk hr)
 | _=>intro _ S K tmps w Q hk hr hq;simp only [aexec] at hk;cases hk
end Go.Am
set_option linter.unusedVariables false
set_option linter.unusedSimpArgs false
namespace Go.Am
open Go
variable {P:Program} {w w':World} {F:Fence} {nf:Nat}
theorem yaGy {ops:Array Oper} {Q:Exit→Act→World→Prop} {i:Nat} {rest:List Nat} {o:Oper} {a:Act} {v:Value} (hF:Open P F) (ho:ops[i]? = some o) (hg:o.guard = none) (hnd:∀ c,o.op≠.defer c)
  (hrun:(execOp a.eval o).run P w = .ok (.value v) w') (h:wpOpsIn F nf P ops Q rest (a.put o.dst v) w'):wpOpsIn F nf P ops Q (i::rest) a w:=by
 have hw:Region.wanted o (yielded ops a.tmps) = true:=by simp [Region.wanted,hg]
 simp only [wpOpsIn,ho,hw,if_true]
 refine ⟨fun f _=>hF.fn f,?_⟩
 rw [Oper.semAt_eq _ _ _ hnd,hrun]
 exact h
abbrev Tri:=Option Tmp×Op×Option (Nat×Bool)
def tri (ops:Array Oper):List Tri:=ops.toList.map fun o=>(o.dst,o.op,o.guard)
theorem yb0y {ops:Array Oper} {l:List Tri} (h:tri ops = l) {j:Nat} {x:Tri} (hx:l[j]? = some x):∃ o,ops[j]? = some o∧o.dst = x.1∧o.op = x.2.1∧o.guard = x.2.2:=by
 subst h
 unfold tri at hx
 rw [List.getElem?_map] at hx
 obtain ⟨o,ho,rfl⟩:=Option.map_eq_some_iff.1 hx
 exact ⟨o,by simpa using ho,rfl,rfl,rfl⟩
theorem yloy {ops:Array Oper} {l:List Tri} (h:tri ops = l):ops.size = l.length:=by
 subst h;simp [tri]
def bw0 (tS tI:Nat):List Tri:=[(some 4,.load tS (.tmp 1),none),(some 5,.call { callee:=.builtin .len,args:=#[.tmp 4],argTypes:=#[tS] },none),(some 6,.binOp .sub tI (.tmp 5) (.const (.int .i64 1)) tI,none),(some 3,.assign (.tmp 6),none)]
def bw1 (tI:Nat):List Tri:=[(some 7,.move (.tmp 3),none),(some 8,.binOp .geq tI (.tmp 7) (.const (.int .i64 0)) tI,none)]
def bw3 (tS tE tI tB:Nat):List Tri:=[(some 11,.move (.tmp 0),none),(some 12,.move (.tmp 3),none),(some 13,.load tS (.tmp 1),none),(some 14,.move (.tmp 3),none),(some 15,.indexAddr tS (.tmp 13) (.tmp 14),none),(some 16,.load tE (.tmp 15),none),
 (some 17,.call { callee:=.value (.tmp 11),args:=#[.tmp 12,.tmp 16],argTypes:=#[tI,tE] },none),(some 18,.unOp .not tB (.tmp 17),none)]
def bw2 (tI:Nat):List Tri:=[(some 9,.move (.tmp 3),none),(some 10,.binOp .sub tI (.tmp 9) (.const (.int .i64 1)) tI,none),(some 3,.assign (.tmp 10),none)]
structure BwOk (P:Program) (f1 tS tE tI tB:Nat):Prop where
 ex:∃ (fn:Func) (r0 b0 r1 b1 r3 r2:Nat) (ops0 ops1 ops3 ops2:Array Oper),P.funcs[f1]? = some fn∧fn.ntmps = 19∧fn.results = #[] ∧
  fn.body = some (.seq (.region r0 ops0 false) (.block b0 (.loop (.seq (.seq (.region r1 ops1 false) (.cond (.tmp 8) .skip (.exit b0))) (.seq (.block b1 (.seq (.region r3 ops3 false) (.cond (.tmp 18) .ret .skip))) (.region r2 ops2 false)))))) ∧
  tri ops0 = bw0 tS tI∧tri ops1 = bw1 tI∧tri ops3 = bw3 tS tE tI tB∧tri ops2 = bw2 tI
 sl:∃ e,P.underlying tS = some (.slice e)
 int:P.underlying tI = some (.int .i64)
variable {a:Act}
theorem yh1y {o:Oper} {x:Operand} (h:o.op = .move x ∨ o.op = .assign x):(execOp a.eval o).run P w = .ok (.value (a.eval x)) w:=by rcases h with h | h <;> simp [execOp,h]
theorem yv3y {o:Oper} {t:TypeId} {x:Operand} {v:Value} (h:o.op = .load t x) (hr:(Instr.loadAt t (a.eval x)).run P w = .ok v w):(execOp a.eval o).run P w = .ok (.value v) w:=by
 simp [execOp,h,hr]
theorem yxMy {o:Oper} {t t':TypeId} {x y:Operand} {m n:Int} (h:o.op = .binOp .sub t x y t') (hx:a.eval x = .int .i64 m) (hy:a.eval y = .int .i64 n):(execOp a.eval o).run P w = .ok (.value (.int .i64 (IntKind.i64.wrap (m - n)))) w:=by
 have hg:(eqGuard .sub t x y (.int .i64 m) (.int .i64 n)).run P w = .ok () w:=rfl
 simp [execOp,h,hx,hy,hg,binOp,Op.intArith]
theorem yETy {o:Oper} {t t':TypeId} {x y:Operand} {m n:Int} (h:o.op = .binOp .geq t x y t') (hx:a.eval x = .int .i64 m) (hy:a.eval y = .int .i64 n):(execOp a.eval o).run P w = .ok (.value (.bool (decide (m ≥ n)))) w:=by
 have hg:(eqGuard .geq t x y (.int .i64 m) (.int .i64 n)).run P w = .ok () w:=rfl
 simp [execOp,h,hx,hy,hg,binOp,Op.intCmp]
theorem yGhy {o:Oper} {t:TypeId} {x:Operand} {b:Bool} (h:o.op = .unOp .not t x) (hx:a.eval x = .bool b):(execOp a.eval o).run P w = .ok (.value (.bool (!b))) w:=by
 simp [execOp,h,hx,Op.unary]
theorem yGYy {o:Oper} {t e:TypeId} {x:Operand} {ad:Option Addr} {n c:Nat} (h:o.op = .call { callee:=.builtin .len,args:=#[x],argTypes:=#[t] }) (ht:P.underlying t = some (.slice e)) (hx:a.eval x = .slice ad n c) :
  (execOp a.eval o).run P w = .ok (.value (.int .i64 n)) w:=by
 simp [execOp,h,resolve,invoke,builtin,hx,Builtin.len_,run_underlying ht,goInt]
theorem yITy {o:Oper} {t:TypeId} {x i:Operand} {v:Value} (h:o.op = .indexAddr t x i) (hr:(Instr.indexAt t (a.eval x) (a.eval i)).run P w = .ok v w):(execOp a.eval o).run P w = .ok (.value v) w:=by
 simp [execOp,h,hr]
theorem yIFy {o:Oper} {g x y:Operand} {tys:Array TypeId} {l:Nat} {r:Next} (h:o.op = .call { callee:=.value g,args:=#[x,y],argTypes:=tys }) (hg:a.eval g = .func (.yield l) #[] #[]) (hr:(Instr.yield l #[a.eval x,a.eval y]).run P w = .ok r w) :
  (execOp a.eval o).run P w = .ok r w:=by
 simp [execOp,h,resolve,hg,Deferred.ofValue,invoke,hr]
theorem yaXy {d i:Nat} (v:Value) (h:d≠i):(a.put (some d) v).tmps[i]? = a.tmps[i]?:=by
 simp only [Act.put]
 rw [Array.getElem?_setIfInBounds_ne h]
theorem ya4y {d:Nat} (v:Value) (h:d < a.tmps.size):(a.put (some d) v).tmps[d]? = some v:=by
 simp only [Act.put]
 rw [Array.getElem?_setIfInBounds_self_of_lt h]
theorem aeval {i:Nat} {v:Value} (h:a.tmps[i]? = some v):a.eval (.tmp i) = v:=by
 show a.tmps.getD i undef = v
 rw [Array.getD_eq_getD_getElem?,h];rfl
theorem yu5y (v:Value):a.eval (.const v) = v:=rfl
structure Fr (y bp:Value) (a:Act):Prop where
 size:a.tmps.size = 19
 s0:a.tmps[0]? = some y
 s1:a.tmps[1]? = some bp
 df:a.defers = []
theorem Fr.put {y bp:Value} (h:Fr y bp a) (d:Nat) (v:Value) (h0:d≠0) (h1:d≠1):Fr y bp (a.put (some d) v) :=
 ⟨by simp [Act.put,h.size],by rw [yaXy v h0];exact h.s0,by rw [yaXy v h1];exact h.s1,h.df⟩
theorem nd_of {o:Oper} {x:Op} (h:o.op = x) (hx:∀ c,x≠.defer c):∀ c,o.op≠.defer c:=fun c hc=>hx c (h ▸ hc)
theorem bw_r0 (hF:Open P F) {ops:Array Oper} {tS tI e:Nat} (h:tri ops = bw0 tS tI) (hu:P.underlying tS = some (.slice e)) {y bp:Value} (hf:Fr y bp a) {ad:Option Addr} {n c:Nat} (hl:(Instr.loadAt tS bp).run P w = .ok (.slice ad n c) w) {r:Nat} {Q:Exit→Act→World→Prop}
  (hq:∀ a',Fr y bp a'→a'.tmps[3]? = some (.int .i64 (IntKind.i64.wrap ((n:Int) - 1)))→Q .normal a' w):(Code.region r ops false).wpIn F nf P Q a w:=by
 refine wpIn_region ?_
 rw [yloy h]
 obtain ⟨o0,p0,d0,q0,g0⟩:=yb0y h (j:=0) rfl
 obtain ⟨o1,p1,d1,q1,g1⟩:=yb0y h (j:=1) rfl
 obtain ⟨o2,p2,d2,q2,g2⟩:=yb0y h (j:=2) rfl
 obtain ⟨o3,p3,d3,q3,g3⟩:=yb0y h (j:=3) rfl
 show wpOpsIn F nf P ops Q [0,1,2,3] a w
 refine yaGy hF p0 g0 (nd_of q0 (fun c hc=>by cases hc)) (yv3y q0 (by rw [aeval hf.s1];exact hl)) ?_
 rw [d0]
 have f1:=hf.put 4 (.slice ad n c) (by decide) (by decide)
 have t4:(a.put (some 4) (.slice ad n c)).tmps[4]? = some (.slice ad n c):=ya4y _ (by rw [hf.size];decide)
 generalize a.put (some 4) (.slice ad n c) = a1 at f1 t4
 refine yaGy hF p1 g1 (nd_of q1 (fun c hc=>by cases hc)) (yGYy q1 hu (aeval t4)) ?_
 rw [d1]
 have f2:=f1.put 5 (.int .i64 n) (by decide) (by decide)
 have t5:(a1.put (some 5) (.int .i64 n)).tmps[5]? = some (.int .i64 n):=ya4y _ (by rw [f1.size];decide)
 generalize a1.put (some 5) (.int .i64 n) = a2 at f2 t5
 refine yaGy hF p2 g2 (nd_of q2 (fun c hc=>by cases hc)) (yxMy q2 (aeval t5) (yu5y _)) ?_
 rw [d2]
 have f3:=f2.put 6 (.int .i64 (IntKind.i64.wrap ((n:Int) - 1))) (by decide) (by decide)
 have t6:(a2.put (some 6) (.int .i64 (IntKind.i64.wrap ((n:Int) - 1)))).tmps[6]? = some (.int .i64 (IntKind.i64.wrap ((n:Int) - 1))):=ya4y _ (by rw [f2.size];decide)
 generalize a2.put (some 6) (.int .i64 (IntKind.i64.wrap ((n:Int) - 1))) = a3 at f3 t6
 refine yaGy hF p3 g3 (nd_of q3 (fun c hc=>by cases hc)) (yh1y (x:=.tmp 6) (.inr q3)) ?_
 rw [d3,aeval t6]
 exact hq _ (f3.put 3 _ (by decide) (by decide)) (ya4y _ (by rw [f3.size];decide))
theorem bw_r1 (hF:Open P F) {ops:Array Oper} {tI:Nat} (h:tri ops = bw1 tI) {y bp:Value} (hf:Fr y bp a) {i:Int} (h3:a.tmps[3]? = some (.int .i64 i)) {r:Nat} {Q:Exit→Act→World→Prop}
  (hq:∀ a',Fr y bp a'→a'.tmps[3]? = some (.int .i64 i)→a'.tmps[8]? = some (.bool (decide (i ≥ 0)))→Q .normal a' w):(Code.region r ops false).wpIn F nf P Q a w:=by
 refine wpIn_region ?_
 rw [yloy h]
 obtain ⟨o0,p0,d0,q0,g0⟩:=yb0y h (j:=0) rfl
 obtain ⟨o1,p1,d1,q1,g1⟩:=yb0y h (j:=1) rfl
 show wpOpsIn F nf P ops Q [0,1] a w
 refine yaGy hF p0 g0 (nd_of q0 (fun c hc=>by cases hc)) (yh1y (x:=.tmp 3) (.inl q0)) ?_
 rw [d0,aeval h3]
 have f1:=hf.put 7 (.int .i64 i) (by decide) (by decide)
 have t7:(a.put (some 7) (.int .i64 i)).tmps[7]? = some (.int .i64 i):=ya4y _ (by rw [hf.size];decide)
 have t3:(a.put (some 7) (.int .i64 i)).tmps[3]? = some (.int .i64 i):=by rw [yaXy _ (by decide)];exact h3
 generalize a.put (some 7) (.int .i64 i) = a1 at f1 t7 t3
 refine yaGy hF p1 g1 (nd_of q1 (fun c hc=>by cases hc)) (yETy q1 (aeval t7) (yu5y _)) ?_
 rw [d1]
 exact hq _ (f1.put 8 _ (by decide) (by decide)) (by rw [yaXy _ (by decide)];exact t3) (ya4y _ (by rw [f1.size];decide))
theorem bw_r2 (hF:Open P F) {ops:Array Oper} {tI:Nat} (h:tri ops = bw2 tI) {y bp:Value} (hf:Fr y bp a) {i:Int} (h3:a.tmps[3]? = some (.int .i64 i)) {r:Nat} {Q:Exit→Act→World→Prop}
  (hq:∀ a',Fr y bp a'→a'.tmps[3]? = some (.int .i64 (IntKind.i64.wrap (i - 1)))→Q .normal a' w):(Code.region r ops false).wpIn F nf P Q a w:=by
 refine wpIn_region ?_
 rw [yloy h]
 obtain ⟨o0,p0,d0,q0,g0⟩:=yb0y h (j:=0) rfl
 obtain ⟨o1,p1,d1,q1,g1⟩:=yb0y h (j:=1) rfl
 obtain ⟨o2,p2,d2,q2,g2⟩:=yb0y h (j:=2) rfl
 show wpOpsIn F nf P ops Q [0,1,2] a w
 refine yaGy hF p0 g0 (nd_of q0 (fun c hc=>by cases hc)) (yh1y (x:=.tmp 3) (.inl q0)) ?_
 rw [d0,aeval h3]
 have f1:=hf.put 9 (.int .i64 i) (by decide) (by decide)
 have t9:(a.put (some 9) (.int .i64 i)).tmps[9]? = some (.int .i64 i):=ya4y _ (by rw [hf.size];decide)
 generalize a.put (some 9) (.int .i64 i) = a1 at f1 t9
 refine yaGy hF p1 g1 (nd_of q1 (fun c hc=>by cases hc)) (yxMy q1 (aeval t9) (yu5y _)) ?_
 rw [d1]
 have f2:=f1.put 10 (.int .i64 (IntKind.i64.wrap (i - 1))) (by decide) (by decide)
 have t10:(a1.put (some 10) (.int .i64 (IntKind.i64.wrap (i - 1)))).tmps[10]? = some (.int .i64 (IntKind.i64.wrap (i - 1))):=ya4y _ (by rw [f1.size];decide)
 generalize a1.put (some 10) (.int .i64 (IntKind.i64.wrap (i - 1))) = a2 at f2 t10
 refine yaGy hF p2 g2 (nd_of q2 (fun c hc=>by cases hc)) (yh1y (x:=.tmp 10) (.inr q2)) ?_
 rw [d2,aeval t10]
 exact hq _ (f2.put 3 _ (by decide) (by decide)) (ya4y _ (by rw [f2.size];decide))
theorem bw_r3 (hF:Open P F) {ops:Array Oper} {tS tE tI tB:Nat} (h:tri ops = bw3 tS tE tI tB) {l:Nat} {bp:Value} (hf:Fr (.func (.yield l) #[] #[]) bp a) {i:Int} (h3:a.tmps[3]? = some (.int .i64 i)) {sv pv u:Value}
  (hl:(Instr.loadAt tS bp).run P w = .ok sv w) (hx:(Instr.indexAt tS sv (.int .i64 i)).run P w = .ok pv w) (he:(Instr.loadAt tE pv).run P w = .ok u w) {fn:Nat} {tm:Array Value} {assign body:Code}
  (hy:(Instr.yield l #[.int .i64 i,u]).run P w = .ok (.round l fn tm assign body) w) {R:World→Prop} (hr:∀ m,RoundIn F m P l fn tm assign body w fun e w'=>e = .returned (.bool true)∧R w') {r:Nat} {Q:Exit→Act→World→Prop}
  (hq:∀ a' w',R w'→Fr (.func (.yield l) #[] #[]) bp a'→a'.tmps[3]? = some (.int .i64 i)→a'.tmps[18]? = some (.bool false)→Q .normal a' w'):(Code.region r ops false).wpIn F nf P Q a w:=by
 refine wpIn_region ?_
 rw [yloy h]
 obtain ⟨o0,p0,d0,q0,g0⟩:=yb0y h (j:=0) rfl
 obtain ⟨o1,p1,d1,q1,g1⟩:=yb0y h (j:=1) rfl
 obtain ⟨o2,p2,d2,q2,g2⟩:=yb0y h (j:=2) rfl
 obtain ⟨o3,p3,d3,q3,g3⟩:=yb0y h (j:=3) rfl
 obtain ⟨o4,p4,d4,q4,g4⟩:=yb0y h (j:=4) rfl
 obtain ⟨o5,p5,d5,q5,g5⟩:=yb0y h (j:=5) rfl
 obtain ⟨o6,p6,d6,q6,g6⟩:=yb0y h (j:=6) rfl
 obtain ⟨o7,p7,d7,q7,g7⟩:=yb0y h (j:=7) rfl
 show wpOpsIn F nf P ops Q [0,1,2,3,4,5,6,7] a w
 refine yaGy hF p0 g0 (nd_of q0 (fun c hc=>by cases hc)) (yh1y (x:=.tmp 0) (.inl q0)) ?_
 rw [d0,aeval hf.s0]
 have f1:=hf.put 11 (.func (.yield l) #[] #[]) (by decide) (by decide)
 have t11:(a.put (some 11) (.func (.yield l) #[] #[])).tmps[11]? = some (.func (.yield l) #[] #[]):=ya4y _ (by rw [hf.size];decide)
 have t3:(a.put (some 11) (.func (.yield l) #[] #[])).tmps[3]? = some (.int .i64 i):=by rw [yaXy _ (by decide)];exact h3
 generalize a.put (some 11) (.func (.yield l) #[] #[]) = a1 at f1 t11 t3
 refine yaGy hF p1 g1 (nd_of q1 (fun c hc=>by cases hc)) (yh1y (x:=.tmp 3) (.inl q1)) ?_
 rw [d1,aeval t3]
 have f2:=f1.put 12 (.int .i64 i) (by decide) (by decide)
 have s12:(a1.put (some 12) (.int .i64 i)).tmps[12]? = some (.int .i64 i):=ya4y _ (by rw [f1.size];decide)
 have s11:(a1.put (some 12) (.int .i64 i)).tmps[11]? = some (.func (.yield l) #[] #[]):=by rw [yaXy _ (by decide)];exact t11
 have s3:(a1.put (some 12) (.int .i64 i)).tmps[3]? = some (.int .i64 i):=by rw [yaXy _ (by decide)];exact t3
 clear t11 t3
 generalize a1.put (some 12) (.int .i64 i) = a2 at f2 s12 s11 s3
 refine yaGy hF p2 g2 (nd_of q2 (fun c hc=>by cases hc)) (yv3y q2 (by rw [aeval f2.s1];exact hl)) ?_
 rw [d2]
 have f3:=f2.put 13 sv (by decide) (by decide)
 have t13:(a2.put (some 13) sv).tmps[13]? = some sv:=ya4y _ (by rw [f2.size];decide)
 have t12:(a2.put (some 13) sv).tmps[12]? = some (.int .i64 i):=by rw [yaXy _ (by decide)];exact s12
 have t11:(a2.put (some 13) sv).tmps[11]? = some (.func (.yield l) #[] #[]):=by rw [yaXy _ (by decide)];exact s11
 have t3:(a2.put (some 13) sv).tmps[3]? = some (.int .i64 i):=by rw [yaXy _ (by decide)];exact s3
 clear s12 s11 s3
 generalize a2.put (some 13) sv = a3 at f3 t13 t12 t11 t3
 refine yaGy hF p3 g3 (nd_of q3 (fun c hc=>by cases hc)) (yh1y (x:=.tmp 3) (.inl q3)) ?_
 rw [d3,aeval t3]
 have f4:=f3.put 14 (.int .i64 i) (by decide) (by decide)
 have s14:(a3.put (some 14) (.int .i64 i)).tmps[14]? = some (.int .i64 i):=ya4y _ (by rw [f3.size];decide)
 have s13:(a3.put (some 14) (.int .i64 i)).tmps[13]? = some sv:=by rw [yaXy _ (by decide)];exact t13
 have s12:(a3.put (some 14) (.int .i64 i)).tmps[12]? = some (.int .i64 i):=by rw [yaXy _ (by decide)];exact t12
 have s11:(a3.put (some 14) (.int .i64 i)).tmps[11]? = some (.func (.yield l) #[] #[]):=by rw [yaXy _ (by decide)];exact t11
 have s3:(a3.put (some 14) (.int .i64 i)).tmps[3]? = some (.int .i64 i):=by rw [yaXy _ (by decide)];exact t3
 clear t13 t12 t11 t3
 generalize a3.put (some 14) (.int .i64 i) = a4 at f4 s14 s13 s12 s11 s3
 refine yaGy hF p4 g4 (nd_of q4 (fun c hc=>by cases hc)) (yITy q4 (by rw [aeval s13,aeval s14];exact hx)) ?_
 rw [d4]
 have f5:=f4.put 15 pv (by decide) (by decide)
 have t15:(a4.put (some 15) pv).tmps[15]? = some pv:=ya4y _ (by rw [f4.size];decide)
 have t12:(a4.put (some 15) pv).tmps[12]? = some (.int .i64 i):=by rw [yaXy _ (by decide)];exact s12
 have t11:(a4.put (some 15) pv).tmps[11]? = some (.func (.yield l) #[] #[]):=by rw [yaXy _ (by decide)];exact s11
 have t3:(a4.put (some 15) pv).tmps[3]? = some (.int .i64 i):=by rw [yaXy _ (by decide)];exact s3
 clear s14 s13 s12 s11 s3
 generalize a4.put (some 15) pv = a5 at f5 t15 t12 t11 t3
 refine yaGy hF p5 g5 (nd_of q5 (fun c hc=>by cases hc)) (yv3y q5 (by rw [aeval t15];exact he)) ?_
 rw [d5]
 have f6:=f5.put 16 u (by decide) (by decide)
 have s16:(a5.put (some 16) u).tmps[16]? = some u:=ya4y _ (by rw [f5.size];decide)
 have s12:(a5.put (some 16) u).tmps[12]? = some (.int .i64 i):=by rw [yaXy _ (by decide)];exact t12
 have s11:(a5.put (some 16) u).tmps[11]? = some (.func (.yield l) #[] #[]):=by rw [yaXy _ (by decide)];exact t11
 have s3:(a5.put (some 16) u).tmps[3]? = some (.int .i64 i):=by rw [yaXy _ (by decide)];exact t3
 clear t15 t12 t11 t3
 generalize a5.put (some 16) u = a6 at f6 s16 s12 s11 s3
 have hw:Region.wanted o6 (yielded ops a6.tmps) = true:=by simp [Region.wanted,g6]
 simp only [wpOpsIn,p6,hw,if_true]
 refine ⟨fun f _=>hF.fn f,?_⟩
 rw [Oper.semAt_eq _ _ _ (nd_of q6 (fun c hc=>by cases hc)),yIFy q6 (aeval s11) (by rw [aeval s12,aeval s16];exact hy)]
 refine ⟨fun hd=>(by rw [hF.depth] at hd;cases hd),RoundIn.mono (hr _) ?_⟩
 rintro e w' ⟨rfl,hR⟩
 rw [d6]
 have f7:=f6.put 17 (.bool true) (by decide) (by decide)
 have t17:(a6.put (some 17) (.bool true)).tmps[17]? = some (.bool true):=ya4y _ (by rw [f6.size];decide)
 have t3:(a6.put (some 17) (.bool true)).tmps[3]? = some (.int .i64 i):=by rw [yaXy _ (by decide)];exact s3
 show wpOpsIn F nf P ops Q [7] (a6.put (some 17) (.bool true)) w'
 generalize a6.put (some 17) (.bool true) = a7 at f7 t17 t3
 refine yaGy hF p7 g7 (nd_of q7 (fun c hc=>by cases hc)) (yGhy q7 (aeval t17)) ?_
 rw [d7]
 exact hq _ _ hR (f7.put 18 _ (by decide) (by decide)) (by rw [yaXy _ (by decide)];exact t3) (ya4y _ (by rw [f7.size];decide))
theorem yuUy {x:Int} (h1:-9223372036854775808≤x) (h2:x≤9223372036854775807):IntKind.i64.wrap x = x:=by
 unfold IntKind.wrap
 simp [IntKind.bits,IntKind.signed]
 omega
theorem yCGy {f1 tS tE tI tB:Nat} (hb:BwOk P f1 tS tE tI tB) (l Bs n0:Nat) (J:Nat→World→Prop) {W:World} (hn0:n0 < 4611686018427387904)
  (hstart:∃ a c,(Instr.loadAt tS (.pointer (some ⟨Bs,0,none⟩))).run P W = .ok (.slice a n0 c) W) (h0:J n0 W)
  (hround:∀ i W,i < n0→J (i + 1) W→∃ sv pv u,(Instr.loadAt tS (.pointer (some ⟨Bs,0,none⟩))).run P W = .ok sv W∧(Instr.indexAt tS sv (.int .i64 i)).run P W = .ok pv W∧(Instr.loadAt tE pv).run P W = .ok u W ∧
   ∃ fn tm assign body,(Instr.yield l #[.int .i64 i,u]).run P W = .ok (.round l fn tm assign body) W∧∀ m,RoundIn Fence.wide m P l fn tm assign body W fun e W'=>e = .returned (.bool true)∧J i W') (nf:Nat) :
  CallsIn Fence.wide nf P f1 #[.func (.yield l) #[] #[],.pointer (some ⟨Bs,0,none⟩)] W fun e W'=>(∃ v,e = .returned v)∧J 0 W':=by
 obtain ⟨fn,r0,b0,r1,b1,r3,r2,ops0,ops1,ops3,ops2,hf,hnt,hres,hbody,c0,c1,c3,c2⟩:=hb.ex
 obtain ⟨e,hu⟩:=hb.sl
 obtain ⟨ad,c,hl0⟩:=hstart
 have hF:Open P Fence.wide:=yg1y
 refine callsIn_of_wp hf hbody trivial ?_ rfl
 have hfr:Fr (.func (.yield l) #[] #[]) (.pointer (some ⟨Bs,0,none⟩)) { tmps:=#[.func (.yield l) #[] #[],.pointer (some ⟨Bs,0,none⟩)]++Array.replicate (fn.ntmps - 2) undef,defers:=[] }:=by
  rw [hnt]
  exact ⟨by simp,by simp,by simp,rfl⟩
 have hend:∀ (a:Act) (w:World),a.defers = []→J 0 w→bodyPost P fn (fun e W'=>(∃ v,e = .returned v)∧J 0 W') .normal a w:=by
  intro a w hd hj
  refine ⟨hd,.tuple #[],?_,⟨_,rfl⟩,hj⟩
  simp [results,hres]
 refine wpIn_seq (bw_r0 hF c0 hu hfr hl0 (fun a1 f1 t3=>?_))
 refine wpIn_block ?_
 have hw0:IntKind.i64.wrap ((n0:Int) - 1) = (n0:Int) - 1:=yuUy (by omega) (by omega)
 rw [hw0] at t3
 refine ymZy (n:=n0 + 1) (fun m a w=>∃ i,m = i + 1∧i≤n0∧Fr (.func (.yield l) #[] #[]) (.pointer (some ⟨Bs,0,none⟩)) a∧a.tmps[3]? = some (.int .i64 ((i:Int) - 1))∧J i w) (fun a w h=>by obtain ⟨i,h,_⟩:=h;cases h) ?_ ⟨n0,rfl,Nat.le_refl _,f1,t3,h0⟩
 rintro m a w ⟨i,hm,hi,hfa,h3,hj⟩
 have hm:i = m:=by omega
 subst hm
 refine wpIn_seq (wpIn_seq (bw_r1 hF c1 hfa h3 (fun a2 f2 t3 t8=>?_)))
 cases i with
 | zero =>
  have h8:decide (((0:Nat):Int) - 1 ≥ 0) = false:=rfl
  rw [h8] at t8
  refine wpIn_cond_false (aeval t8) (wpIn_exit ?_)
  show (Exit.inBlock b0 _) (.exit b0) a2 w
  simp only [Exit.inBlock,if_true]
  exact hend a2 w f2.df hj
 | succ j =>
  have hij:((j + 1:Nat):Int) - 1 = (j:Int):=by omega
  rw [hij] at t3 t8
  rw [decide_eq_true (show (j:Int) ≥ 0 by omega)] at t8
  refine wpIn_cond_true (aeval t8) (wpIn_skip ?_)
  show Code.wpIn _ _ _ _ _ _ _
  obtain ⟨sv,pv,u,k1,k2,k3,fnr,tm,assign,body,k4,k5⟩:=hround j w (by omega) hj
  refine wpIn_seq (wpIn_block (wpIn_seq (bw_r3 hF c3 f2 t3 k1 k2 k3 k4 k5 (fun a3 w3 hj3 f3 t3 t18=>?_))))
  refine wpIn_cond_false (aeval t18) (wpIn_skip ?_)
  show Code.wpIn _ _ _ _ _ _ _
  refine bw_r2 hF c2 f3 t3 (fun a4 f4 t3=>?_)
  have hw:IntKind.i64.wrap ((j:Int) - 1) = (j:Int) - 1:=yuUy (by omega) (by omega)
  rw [hw] at t3
  exact ⟨j,rfl,by omega,f4,t3,hj3⟩
end Go.Am
set_option linter.unusedVariables false
set_option linter.unusedSimpArgs false
namespace Go.Am
open Go
variable {A:Nat→Type}
variable {T:Ty A} {w0 w w':World} {F0:List Nat} {X:Nat→Prop} {γ γ':Nat→Value} {φ φ':Nat→List Nat} {av av':Nat→Prop} {tmps:Array Value} {S S':St A} {R:Type} {P:Program} {res:R}
theorem Pres.trans {w w' w'':World} {av av' av'':Nat→Prop} (h:Pres w av w' av') (k:Pres w' av' w'' av''):Pres w av w'' av'':=fun b o hb ho=>k b o (h b o hb ho).2 (h b o hb ho).1
theorem Rel.narrow (h:Rel T w0 F0 X γ φ av w tmps S):Rel T w0 F0 X γ φ (fun b=>X b ∨ ∃ t o,S.look t = some o∧b∈φ t) w tmps S:=by
 refine h.upd (fun _=>False) rfl ?_ (fun t _=>⟨rfl,rfl,rfl⟩) (fun t o' _ ho b hb=>rfl) (fun t hf=>hf.elim) (fun t o hf=>hf.elim) (fun t o hf=>hf.elim)
  (fun t o t' o' hf=>hf.elim) (fun b hb=>hb) (fun b hb=>h.avlt b (h.avs b hb)) (fun t o hf=>hf.elim) (Nat.le_refl _) h.left
 intro b o hb ho
 exact ⟨ho,fun hx=>hb (h.avs b hx)⟩
theorem Rel.unbase' {Y:Nat→Prop} {w1:World} {S1:St A} {tmps1:Array Value} {γ1:Nat→Value} {φ1:Nat→List Nat} {av1:Nat→Prop} (h:Rel T w0 F0 X γ1 φ1 av1 w1 tmps1 S1) (hA:Apart γ1 φ1 av1 S1 Y) (h':Rel T w1 (AllOf φ1 S1) (fun b=>X b ∨ Y b) γ φ av w tmps S) :
  ∃ av',Rel T w0 F0 X γ φ av' w tmps S∧Apart γ φ av' S Y∧(∀ b,Y b→w.heap[b]? = w1.heap[b]?)∧Pres w1 av1 w av':=by
 have hn:=h'.narrow
 obtain ⟨g1,g2,g3⟩:=h.unbase hn
 refine ⟨_,g1,g2,g3,fun b o hb ho=>?_⟩
 have hlt:b < w1.heap.size:=by
  rcases Nat.lt_or_ge b w1.heap.size with hh | hh
  ·exact hh
  ·simp [Array.getElem?_eq_none hh] at ho
 have hnF:b ∉ AllOf φ1 S1:=fun hm=>by
  obtain ⟨t,o,hl,hbt⟩:=yeWy.1 hm
  exact hb (h.av_of hl hbt)
 refine ⟨by rw [h'.left.block b hlt hnF];exact ho,?_⟩
 rintro ((hx | hx) | ⟨t,o,hl,hbt⟩)
 ·exact hb (h.avs b (.inl hx))
 ·exact hb (hA b hx).1
 ·rcases (h'.fp t o hl b hbt).1 with hh | hh
  ·exact hnF hh
  ·omega
theorem Rel.letgo (h:Rel T w0 F0 X γ φ av w tmps S) {tg:Nat} {o:Ob A} (hl:S.look tg = some o) {b:Nat} (hb:(γ tg).oneCell' = true) (hφ:φ tg = [b]) :
  ∃ φ',Rel T w0 F0 X γ φ' av w tmps { S with st:=S.st.set tg (some (.gone o.kind)) }∧Apart γ φ' av { S with st:=S.st.set tg (some (.gone o.kind)) } (fun c=>c = b):=by
 have hlt:=ybgy hl
 let S':St A:={ S with st:=S.st.set tg (some (.gone o.kind)) }
 have hls:∀ u,S'.look u = if u = tg then some (.gone o.kind) else S.look u:=by
  intro u
  show St.look { S with st:=S.st.set tg (some (.gone o.kind)) } u = _
  rw [yayy]
  by_cases hu:u = tg <;> simp [hu,hlt]
 let φ':Nat→List Nat:=fun u=>if u = tg then [] else φ u
 have hbt:b∈φ tg:=by rw [hφ];simp
 have hbav:av b:=h.av_of hl hbt
 refine ⟨φ',?_,?_⟩
 ·refine h.upd (fun t=>t = tg) rfl (fun c o' hc ho=>⟨ho,hc⟩) (fun t ht=>⟨by rw [hls,if_neg ht],rfl,by simp [φ',ht]⟩) (fun t o' ht ho c hc=>rfl) (fun t ht _=>?_) (fun t o' ht ho=>?_) (fun t o' ht ho=>?_)
   (fun t o' t' o'' ht ho ho' hne c hc=>?_) ?_ h.avlt (fun t o' ht ho c hc=>?_) (Nat.le_refl _) h.left
  ·subst ht
   intro o' ho'
   rw [hls,if_pos rfl] at ho'
   cases ho'
   exact ⟨_,hl,rfl,rfl⟩
  ·subst ht
   rw [hls,if_pos rfl] at ho
   cases ho
   simp only [ROb]
   exact ⟨by simp [φ'],hb⟩
  ·subst ht;simp [φ']
  ·subst ht;simp [φ'] at hc
  ·rintro c (hc | ⟨t,o',ho,hc⟩)
   ·exact h.avs c (.inl hc)
   ·by_cases ht:t = tg
    ·subst ht;simp [φ'] at hc
    ·rw [hls,if_neg ht] at ho
     simp only [φ',if_neg ht] at hc
     exact h.av_of ho hc
  ·subst ht;simp [φ'] at hc
 ·rintro c rfl
  refine ⟨hbav,fun t o' ho hc=>?_⟩
  by_cases ht:t = tg
  ·subst ht;simp [φ'] at hc
  ·rw [hls,if_neg ht] at ho
   simp only [φ',if_neg ht] at hc
   exact h.disj tg _ t o' hl ho (Ne.symm ht) c hbt hc
theorem Rel.more {Y:Nat→Prop} (h:Rel T w0 F0 X γ φ av w tmps S) (hA:Apart γ φ av S Y) (o:Obj) :
  Rel T w0 F0 X γ φ (fun c=>av c ∨ c = w.heap.size) (w.alloc o) tmps S∧Apart γ φ (fun c=>av c ∨ c = w.heap.size) S (fun c=>Y c ∨ c = w.heap.size)∧Pres w av (w.alloc o) (fun c=>av c ∨ c = w.heap.size):=by
 have hp:Pres w av (w.alloc o) (fun c=>av c ∨ c = w.heap.size):=by
  intro c o' hc ho
  have hclt:c < w.heap.size:=by
   rcases Nat.lt_or_ge c w.heap.size with hh | hh
   ·exact hh
   ·simp [Array.getElem?_eq_none hh] at ho
  refine ⟨by rw [ybdy w _ c hclt];exact ho,fun hx=>?_⟩
  rcases hx with hx | hx
  ·exact hc hx
  ·omega
 refine ⟨?_,?_,hp⟩
 ·refine h.upd (fun t=>False) rfl hp (fun t ht=>⟨rfl,rfl,rfl⟩) (fun t o' ht ho c hc=>ybdy w _ c (h.fp t o' ho c hc).2) (fun t ht _=>ht.elim) (fun t o' ht ho=>ht.elim) (fun t o' ht ho=>ht.elim)
   (fun t o' t' o'' ht ho ho' hne c hc=>ht.elim) (fun c hc=>.inl (h.avs c hc)) ?_ (fun t o' ht ho c hc=>ht.elim) (by rw [yaQy];omega) ?_
  ·rintro c (hc | hc)
   ·rw [yaQy];exact Nat.lt_succ_of_lt (h.avlt c hc)
   ·rw [yaQy];omega
  ·obtain ⟨a1,a2,a3,a4,a5⟩:=h.left
   refine ⟨a1,a2,a3,by rw [yaQy];omega,fun i hi hn=>?_⟩
   rw [ybdy w _ i (by omega)]
   exact a5 i hi hn
 ·rintro c (hc | rfl)
  ·exact ⟨.inl (hA c hc).1,(hA c hc).2⟩
  ·exact ⟨.inr rfl,fun t o' ho hc=>absurd (h.fp t o' ho _ hc).2 (Nat.lt_irrefl _)⟩
theorem yupy (w:World) (r:Nat) (o:Obj):w.putObj r o = { w with drawn:=w.drawn,heap:=w.heap.setIfInBounds r o }:=rfl
theorem Rel.asideO {Y:Nat→Prop} (h:Rel T w0 F0 X γ φ av w tmps S) (hY:Apart γ φ av S Y) {r:Nat} (hr:Y r) (hx0:w0.heap.size≤r) (o:Obj) :
  Rel T w0 F0 X γ φ av (w.putObj r o) tmps S∧Pres w av (w.putObj r o) av:=by
 refine ⟨by rw [yupy];exact h.aside hY hr hx0 (Nat.le_refl _) o,fun b o' hb ho=>⟨?_,hb⟩⟩
 rw [World.putObj_heap_other (fun e=>hb (by rw [e];exact (hY r hr).1))];exact ho
def keepB {A:Nat→Type} (keep:List Nat) (m:Nat) (fr:List (AV A)):List (AV A):=(List.range m).map fun i=>bif keep.elem i then fr.getD i .undef else .undef
theorem yrYy {look:Nat→Option (Ob A)} {keep:List Nat} {m:Nat} {fr:List (AV A)} {ts:Array Value} (h:RAVs T w av look γ fr ts.toList) {tm:Array Value} (hm:tm.size = m) (hk:∀ i∈keep,i < m→ts[i]? = tm[i]?) :
  RAVs T w av look γ (keepB keep m fr) tm.toList:=by
 refine RAVs.of_cells (by simp [keepB,hm]) (fun j x hx=>?_)
 unfold keepB at hx
 rw [List.getElem?_map] at hx
 have hj:j < m:=by
  rcases Nat.lt_or_ge j m with hh | hh
  ·exact hh
  ·rw [List.getElem?_eq_none (by simpa using hh)] at hx;cases hx
 rw [List.getElem?_range hj] at hx
 simp only [Option.map_some,Option.some.injEq] at hx
 have hu:∃ u,tm.toList[j]? = some u:=⟨tm.toList[j]'(by simpa [hm] using hj),by simp [hm,hj]⟩
 obtain ⟨u,hu⟩:=hu
 refine ⟨u,hu,?_⟩
 cases hc:keep.elem j with
 | false=>rw [hc] at hx;simp only [cond_false] at hx;subst hx;trivial
 | true =>
  rw [hc] at hx
  simp only [cond_true] at hx
  cases hf:fr[j]? with
  | none=>rw [List.getD_eq_getElem?_getD,hf] at hx;simp at hx;subst hx;trivial
  | some y =>
   rw [List.getD_eq_getElem?_getD,hf] at hx
   simp at hx
   subst hx
   obtain ⟨u',h1,h2⟩:=h.get hf
   have:=hk j (by simpa using hc) hj
   rw [← Array.getElem?_toList,h1] at this
   rw [← Array.getElem?_toList,hu] at this
   cases this
   exact h2
structure RfP where
 g:Nat
 p1:Nat
 p2:Nat
 B:Nat
 r:Code
 assign:Code
 body:Code
def rfOf:Code→Option RfP
 | .seq r (.block B (.rangeFunc (.tmp g) ps assign body))=>match ps.toList with | [p1,p2]=>some { g,p1,p2,B,r,assign,body } | _=>none
 | _=>none
theorem yGSy {c:Code} {p:RfP} (h:rfOf c = some p):c = .seq p.r (.block p.B (.rangeFunc (.tmp p.g) #[p.p1,p.p2] p.assign p.body)):=by
 unfold rfOf at h
 split at h
 ·split at h
  ·rename_i hp
   cases h
   simp only
   congr
   exact Array.toList_inj.1 hp
  ·cases h
 ·cases h
structure Bw where
 f1:Nat
 tS:Nat
 tE:Nat
 tI:Nat
 tB:Nat
abbrev ybZy (A:Nat→Type) (e:Nat):=List (A e)→St A→{R:Type}→(St A→Option R)→Option R
def castB {A:Nat→Type} {e e':Nat} (xs:List (A e)):Option (List (A e')):=if h:e = e' then some (h ▸ xs) else none
theorem yCBy {e e':Nat} {xs:List (A e)} {ys:List (A e')} (h:castB xs = some ys):∃ he:e = e',ys = he ▸ xs:=by
 unfold castB at h
 split at h
 ·rename_i he;cases h;exact ⟨he,rfl⟩
 ·cases h
def pinB (E:Env A) (kp:List Nat):Env A:={ E with pin:=kp++E.pin }
def ymGy (E:Env A) (n:Nat) (kp:List Nat) (p:RfP) (e:Nat) (i:Nat) (xs:List (A e)) (S:St A) {R:Type} (K:St A→Option R):Option R :=
 match xs[i]? with
 | none=>none
 | some x =>
  bif (kp++E.pin).all (fun j=>j != p.p1&&j != p.p2)&&(decide (p.p1 < S.fr.length)&&(decide (p.p2 < S.fr.length)&&p.p1 != p.p2)) then
  aexec (pinB E kp) n p.assign { S with fr:=(S.fr.set p.p1 (.d (.int .i64 i))).set p.p2 (yaWy E.T e x) } fun ex S1 =>
   match ex with
   | .normal=>canonAt ((yagy p.body).bind E.seqH) S1 fun S2=>aexec (pinB E kp) n p.body S2 fun ex S3 =>
    match ex with
    | .normal=>canonAt ((yagy p.body).bind E.loopH) { S3 with fr:=keepB (kp++E.pin) S.fr.length S3.fr } K
    | _=>none
   | _=>none
  else none
def rfM (E:Env A) (bw:Bw) (CB:Nat→Option (Nat→ybZy A bw.tE)) (kp:Nat→List Nat) (p:RfP) (S:St A) {R:Type} (K:St A→Option R):Option R :=
 match S.fr[p.g]? with
 | some (.fn f [.ptr tg 0]) =>
  match S.look tg with
  | some (.box [.d (.sl e xs)]) =>
   match castB (e':=bw.tE) xs with
   | some ys =>
    bif f == bw.f1&&(kp p.B++E.pin).all (fun j=>decide (j < S.fr.length)) then
    bif decide (ys.length < 4611686018427387904) then
    canonAt ((yagy p.body).bind E.loopH) { fr:=keepB (kp p.B++E.pin) S.fr.length S.fr,st:=S.st.set tg (some (.gone (1,0))) } fun S2 =>
     match CB p.B with
     | some L=>L ys.length ys S2 K
     | none=>none
    else none
    else none
   | none=>none
  | _=>none
 | _=>none
def BOk (E:Env A) (bw:Bw) (CB:Nat→Option (Nat→ybZy A bw.tE)) (kp:Nat→List Nat) (n:Nat) (p:RfP):Prop :=
 yasy (pinB E (kp p.B)) n p.assign∧yasy (pinB E (kp p.B)) n p.body∧∀ L,CB p.B = some L →
  (∀ xs S,(∀ (R:Type) (K:St A→Option R),L 0 xs S K = none) ∨ ∀ (R:Type) (K:St A→Option R),L 0 xs S K = K S) ∧
  ∀ i xs S,(∀ (R:Type) (K:St A→Option R),L (i + 1) xs S K = none) ∨ ∀ (R:Type) (K:St A→Option R),L (i + 1) xs S K = ymGy E n (kp p.B) p bw.tE i xs S (fun S'=>L i xs S' K)
structure BwFine (P:Program) (T:Ty A) (bw:Bw):Prop where
 ok:BwOk P bw.f1 bw.tS bw.tE bw.tI bw.tB
 en:ybEy P bw.f1
 el:elemT P bw.tS = some bw.tE
 sz:T.size bw.tE = P.cellsOf bw.tE
 ld:∀ x:A bw.tE,partD P bw.tE (T.enc bw.tE x) 0 = some (yaWy T bw.tE x)
theorem ytyy {t e:Nat} (hu:P.underlying t = some (.slice e)) {b:Nat} {sv:Value} {ty:TypeId} {fz:Nat×Nat} (hc:w.heap[b]? = some (.cells #[sv] ty fz)) :
  (Instr.loadAt t (.pointer (some ⟨b,0,none⟩))).run P w = .ok sv w:=by
 have hp:partL P t [()] 0 = some ([()],false):=by simp [partL,hu]
 obtain ⟨v,hv,x,_,hx⟩:=yeMy (o:=0) hp hc (fun _ u=>u = sv) (fun j x hj=>by
  cases j with
  | zero=>exact ⟨sv,by simp,rfl⟩
  | succ j=>simp at hj)
 subst hx
 simp only [Instr.loadAt,Nat.zero_add] at hv ⊢
 exact hv
theorem yJdy {t e:Nat} (hu:P.underlying t = some (.slice e)) {sz:Nat} (hs:∃ i,P.info? e = some i∧i.size = sz) {b o len cap n:Nat} (hn:n < len) :
  (Instr.indexAt t (.slice (some ⟨b,o,none⟩) len cap) (.int .i64 (n:Int))).run P w = .ok (.pointer (some ⟨b,o + n * sz,none⟩)) w:=by
 obtain ⟨i,hi,rfl⟩:=hs
 have h0:(0:Int)≤(n:Int):=by omega
 have h1:(n:Int) < (len:Int):=by omega
 simp only [Instr.indexAt,asIntOf,Sem.run_bind,Sem.run_pure,Result.andThen_ok,run_underlying hu,h0,h1,and_self,if_true,ya7y hi,addr_add,Int.toNat_natCast]
theorem yEGy {bw:Bw} (hb:BwFine P T bw) (hok:TyOk P T) {xs:List (A bw.tE)} {sv:Value} (hd:DR T w av (.sl bw.tE xs) sv) {i:Nat} {x:A bw.tE} (hx:xs[i]? = some x) (look:Nat→Option (Ob A)) :
  ∃ pv u,(Instr.indexAt bw.tS sv (.int .i64 i)).run P w = .ok pv w∧(Instr.loadAt bw.tE pv).run P w = .ok u w∧RAV T w av look γ (yaWy T bw.tE x) u:=by
 have hu:=ybDy hb.el
 obtain ⟨n,hd⟩:=hd
 have hil:i < xs.length:=by
  rcases Nat.lt_or_ge i xs.length with hh | hh
  ·exact hh
  ·rw [List.getElem?_eq_none hh] at hx;cases hx
 have hne:xs≠[]:=by rintro rfl;simp at hil
 cases n with
 | zero=>simp only [DRep] at hd;exact absurd hd.1 hne
 | succ n =>
  simp only [DRep] at hd
  obtain ⟨a,cap,rfl,_,_,hrow⟩:=hd
  obtain ⟨b,o,c,ty,fz,rfl,_,hc,hrow⟩:=hrow hne
  have hinfo:∃ j,P.info? bw.tE = some j∧j.size = T.size bw.tE:=by
   have hp:=hok.size bw.tE
   cases hi:P.info? bw.tE with
   | none=>rw [hb.sz] at hp;simp [Program.cellsOf,hi] at hp
   | some j=>exact ⟨j,rfl,by rw [hb.sz];simp [Program.cellsOf,hi]⟩
  obtain ⟨u,hu2,hr⟩:=yk7y (γ:=γ) (hb.ld x) (look:=look) (o:=o + i * T.size bw.tE) hc (fun j d hj=>by
   obtain ⟨u,h1,h2⟩:=hrow i x hx j d hj
   exact ⟨u,h1,n,h2⟩)
  refine ⟨_,u,yJdy hu hinfo hil,?_,hr⟩
  simp only [Instr.loadAt,Nat.add_zero] at hu2 ⊢
  exact hu2
end Go.Am
set_option linter.unusedVariables false
set_option linter.unusedSimpArgs false
namespace Go.Am
open Go
variable {A:Nat→Type}
variable {w0 w w':World} {F0:List Nat} {X:Nat→Prop} {γ γ':Nat→Value} {φ φ':Nat→List Nat} {av av':Nat→Prop} {tmps:Array Value} {S S':St A} {R:Type} {P:Program} {res:R}
def markD (D:Nat):Deferred:={ target:=.collected D,args:=#[] }
def Three (D Bs:Nat):Nat→Prop:=fun c=>(c = Bs ∨ c = D) ∨ c = D + 1
def recB (f:FuncId) (tmps:Array Value) (p:RfP) (D:Nat):Loop:={ state:=.ready,pending:=none,fn:=f,tmps,params:=#[p.p1,p.p2],assign:=p.assign,body:=p.body,defers:=D }
structure HeadB (E:Env A) (bw:Bw) (kp:List Nat) (p:RfP) (w0:World) (F0:List Nat) (X:Nat→Prop) (f:FuncId) (tmps:Array Value) (D Bs:Nat) (sv:Value) (ty:TypeId) (xs:List (A bw.tE)) (w:World) (S:St A):Prop where
 rel:∃ γ φ av,Rel E.T w0 F0 X γ φ av w tmps S∧Apart γ φ av S (Three D Bs)∧DR E.T w av (.sl bw.tE xs) sv
 lo:w.heap[D + 1]? = some (.loop (recB f tmps p D))
 de:w.heap[D]? = some (.deferred (some []))
 bx:w.heap[Bs]? = some (.cells #[sv] ty (0,0))
theorem yDTy {kp pin:List Nat} {p:RfP} {m:Nat} (h:((kp++pin).all (fun j=>j != p.p1&&j != p.p2)&&(decide (p.p1 < m)&&(decide (p.p2 < m)&&p.p1 != p.p2))) = true) :
  (∀ j∈kp++pin,j≠p.p1∧j≠p.p2)∧p.p1 < m∧p.p2 < m∧p.p1≠p.p2:=by
 simp only [Bool.and_eq_true,decide_eq_true_eq,List.all_eq_true,bne_iff_ne,ne_eq] at h
 exact ⟨h.1,h.2.1,h.2.2.1,h.2.2.2⟩
theorem yj5y {E:Env A} {pin:Env A} (hT:pin.T = E.T) {us:Array Value} {Y:Nat→Prop} {w1:World} {S1:St A} {tmps1:Array Value} {γ1:Nat→Value} {φ1:Nat→List Nat} {av1:Nat→Prop} (h:Rel E.T w0 F0 X γ1 φ1 av1 w1 tmps1 S1) (hA:Apart γ1 φ1 av1 S1 Y)
  (h':Rels pin w1 (AllOf φ1 S1) (fun b=>X b ∨ Y b) us w tmps S):(∃ γ φ av,Rel E.T w0 F0 X γ φ av w tmps S∧Apart γ φ av S Y∧Pres w1 av1 w av)∧(∀ b,Y b→w.heap[b]? = w1.heap[b]?)∧Pins pin us tmps:=by
 obtain ⟨⟨γ,φ,av,hr⟩,hp⟩:=h'
 rw [hT] at hr
 obtain ⟨av',g1,g2,g3,g4⟩:=h.unbase' hA hr
 exact ⟨⟨γ,φ,av',g1,g2,g4⟩,g3,hp⟩
theorem yGZy {tmps:Array Value} (a b:Nat) (x y:Value):(#[a,b].zip #[x,y]).foldl (fun tmps (t,a)=>tmps.setIfInBounds t a) tmps = (tmps.setIfInBounds a x).setIfInBounds b y:=by
 rw [← Array.foldl_toList,Array.toList_zip];rfl
theorem ywNy (E:Env A) (hE:EnvOk E) (hC:yahy E.C) (hm:E.P.follows .mixedOrders = true) (n:Nat) {bw:Bw} {kp:List Nat} {p:RfP} (ha:yasy (pinB E kp) n p.assign) (hb:yasy (pinB E kp) n p.body)
  {f:FuncId} {D Bs:Nat} {sv:Value} {ty:TypeId} {xs:List (A bw.tE)} {i:Nat} {x:A bw.tE} (hx:xs[i]? = some x) (hD:w0.heap.size≤D) (hBs:Bs < D) {K:St A→Option R}
  (hR:Rel E.T w0 F0 X γ φ av w tmps S) (hA:Apart γ φ av S (Three D Bs)) (hdr:DR E.T w av (.sl bw.tE xs) sv) (hlo:w.heap[D + 1]? = some (.loop (recB f tmps p D))) (hde:w.heap[D]? = some (.deferred (some []))) (hbx:w.heap[Bs]? = some (.cells #[sv] ty (0,0)))
  (hk:ymGy E n kp p bw.tE i xs S K = some res) {u:Value} (hu:RAV E.T w av S.look γ (yaWy E.T bw.tE x) u) (m:Nat) :
  RoundIn Fence.wide m E.P (D + 1) f ((tmps.setIfInBounds p.p1 (.int .i64 (i:Int))).setIfInBounds p.p2 u) p.assign p.body w
   fun e W'=>e = .returned (.bool true)∧∃ S',HeadB E bw kp p w0 F0 X f tmps D Bs sv ty xs W' S'∧K S' = some res:=by
 unfold ymGy at hk
 rw [hx] at hk
 simp only at hk
 cases hc:(kp++E.pin).all (fun j=>j != p.p1&&j != p.p2)&&(decide (p.p1 < S.fr.length)&&(decide (p.p2 < S.fr.length)&&p.p1 != p.p2)) with
 | false=>rw [hc] at hk;cases hk
 | true =>
  rw [hc] at hk
  simp only [cond_true] at hk
  obtain ⟨hka,hp1,hp2,hpn⟩:=yDTy hc
  have hlen:=ynny hR
  have hE':EnvOk (pinB E kp):=⟨hE.ty,hE.tab,hE.flat,hE.keys,hE.sp⟩
  refine roundIn_of_wpIn trivial ?_
  have hR1:Rel E.T w0 F0 X γ φ av w ((tmps.setIfInBounds p.p1 (.int .i64 (i:Int))).setIfInBounds p.p2 u) { S with fr:=(S.fr.set p.p1 (.d (.int .i64 i))).set p.p2 (yaWy E.T bw.tE x) } :=
   (hR.put p.p1 (x:=.d (.int .i64 i)) (v:=.int .i64 (i:Int)) (by simp only [RAV,DR.int])).put p.p2 hu
  have htk:∀ j∈kp++E.pin,((tmps.setIfInBounds p.p1 (.int .i64 (i:Int))).setIfInBounds p.p2 u)[j]? = tmps[j]?:=fun j hj=>by
   rw [Array.getElem?_setIfInBounds_ne (Ne.symm (hka j hj).2),Array.getElem?_setIfInBounds_ne (Ne.symm (hka j hj).1)]
  generalize (tmps.setIfInBounds p.p1 (.int .i64 (i:Int))).setIfInBounds p.p2 u = tmps1 at hR1 htk ⊢
  have hA1:Apart γ φ av { S with fr:=(S.fr.set p.p1 (.d (.int .i64 i))).set p.p2 (yaWy E.T bw.tE x) } (Three D Bs):=hA
  have hB1:=hR1.rebase hA1
  refine ygoy (pinB E kp) (yq0y (D + 1)) [] hE' hC hm (us:=tmps1) n p.assign ha _ _ tmps1 w _ hk ⟨⟨γ,φ,av,hB1⟩,fun j _=>rfl⟩ (fun ex S1 tmps2 w2 hk1 hr2=>?_)
  cases ex with
  | exit j=>cases hk1
  | ret=>cases hk1
  | normal =>
   simp only at hk1
   obtain ⟨S2,hk2,hr3⟩:=hr2.canonAt hk1
   obtain ⟨⟨γ2,φ2,av2,hR2,hA2,hP2⟩,hY2,hp2'⟩:=yj5y (pin:=pinB E kp) rfl hR1 hA1 hr3
   have hlo2:w2.heap[D + 1]? = some (.loop (recB f tmps p D)):=(hY2 (D + 1) (.inr rfl)).trans hlo
   simp only [Ex.toExit,Exit.then]
   refine ⟨_,run_beginRound hlo2 rfl,?_⟩
   obtain ⟨hR3,hP3⟩:=hR2.asideO hA2 (r:=D + 1) (.inr rfl) (by omega) (.loop { recB f tmps p D with state:=.busy })
   have hlt2:D + 1 < w2.heap.size:=hR2.avlt _ (hA2 (D + 1) (.inr rfl)).1
   have hB3:=hR3.rebase hA2
   refine ygoy (pinB E kp) (yq0y (D + 1)) [] hE' hC hm (us:=tmps1) n p.body hb _ _ tmps2 _ _ hk2 ⟨⟨γ2,φ2,av2,hB3⟩,hp2'⟩ (fun ex S3 tmps4 w4 hk3 hr4=>?_)
   cases ex with
   | exit j=>cases hk3
   | ret=>cases hk3
   | normal =>
    simp only at hk3
    obtain ⟨⟨γ4,φ4,av4,hR4,hA4,hP4⟩,hY4,hp4⟩:=yj5y (pin:=pinB E kp) rfl hR3 hA2 hr4
    have hlo4:w4.heap[D + 1]? = some (.loop { recB f tmps p D with state:=.busy }):=(hY4 (D + 1) (.inr rfl)).trans (World.putObj_heap_same hlt2)
    simp only [Ex.toExit,roundPost]
    refine ⟨_,_,run_endRound none hlo4,rfl,?_⟩
    have hlt4:D + 1 < w4.heap.size:=hR4.avlt _ (hA4 (D + 1) (.inr rfl)).1
    have hR5:Rel E.T w0 F0 X γ4 φ4 av4 w4 tmps { S3 with fr:=keepB (kp++E.pin) S.fr.length S3.fr } :=
     ⟨yrYy hR4.fr hlen (fun j hj _=>(hp4 j hj).trans (htk j hj)),hR4.ob,hR4.nd,hR4.disj,hR4.avs,hR4.avlt,hR4.fp,hR4.x,hR4.left,hR4.amb⟩
    have hA5:Apart γ4 φ4 av4 { S3 with fr:=keepB (kp++E.pin) S.fr.length S3.fr } (Three D Bs):=hA4
    obtain ⟨hR6,hP6⟩:=hR5.asideO hA5 (r:=D + 1) (.inr rfl) (by omega) (.loop { recB f tmps p D with state:=.ready,pending:=none })
    have hB6:=hR6.rebase hA5
    have hrs:Rels E _ _ _ tmps _ tmps { S3 with fr:=keepB (kp++E.pin) S.fr.length S3.fr }:=⟨⟨γ4,φ4,av4,hB6⟩,fun j _=>rfl⟩
    obtain ⟨S7,hk7,hr7⟩:=hrs.canonAt hk3
    obtain ⟨⟨γ7,φ7,av7,hR7,hA7,hP7⟩,hY7,_⟩:=yj5y (pin:=E) rfl hR6 hA5 hr7
    refine ⟨S7,⟨⟨γ7,φ7,av7,hR7,hA7,?_⟩,?_,?_,?_⟩,hk7⟩
    ·exact ((((hdr.mono hP2).mono hP3).mono hP4).mono hP6).mono hP7
    ·exact World.putObj_heap_same hlt4
    ·refine (World.putObj_heap_other (by omega)).trans ((hY4 D (.inl (.inr rfl))).trans ((World.putObj_heap_other (by omega)).trans ((hY2 D (.inl (.inr rfl))).trans hde)))
    ·refine (World.putObj_heap_other (by omega)).trans ((hY4 Bs (.inl (.inl rfl))).trans ((World.putObj_heap_other (by omega)).trans ((hY2 Bs (.inl (.inl rfl))).trans hbx)))
theorem yDUy (E:Env A) (hE:EnvOk E) (hC:yahy E.C) (hm:E.P.follows .mixedOrders = true) (n:Nat) {bw:Bw} (hw:BwFine E.P E.T bw) {CB:Nat→Option (Nat→ybZy A bw.tE)} {kp:Nat→List Nat} {p:RfP} (hok:BOk E bw CB kp n p) {us:Array Value}
  (S:St A) (K:St A→Option R) (tmps:Array Value) (w:World) (Q:Exit→Act→World→Prop) (nf:Nat) (hk:rfM E bw CB kp p S K = some res) (hr:Rels E w0 F0 X us w tmps S)
  (hq:∀ S' w' D,K S' = some res→w0.heap.size≤D→w'.heap[D]? = some (.deferred (some []))→(∃ γ φ av,Rel E.T w0 F0 X γ φ av w' tmps S'∧Apart γ φ av S' (fun c=>c = D))→Q .normal ⟨tmps,[markD D]⟩ w') :
  (Code.rangeFunc (.tmp p.g) #[p.p1,p.p2] p.assign p.body).wpIn Fence.wide nf E.P Q ⟨tmps,[]⟩ w:=by
 obtain ⟨⟨γ,φ,av,hR⟩,hp⟩:=hr
 obtain ⟨f1,tS,tE,tI,tB⟩:=bw
 unfold rfM at hk
 split at hk
 ·rename_i f tg hg
  split at hk
  ·rename_i e xs hl
   split at hk
   ·rename_i ys hcast
    obtain ⟨he,rfl⟩:=yCBy hcast
    simp only at he
    subst he
    simp only at hk
    cases hc:f == f1&&(kp p.B++E.pin).all (fun j=>decide (j < S.fr.length)) with
    | false=>rw [hc] at hk;cases hk
    | true =>
     rw [hc] at hk
     simp only [cond_true] at hk
     cases hn:decide (xs.length < 4611686018427387904) with
     | false=>rw [hn] at hk;cases hk
     | true =>
      rw [hn] at hk
      simp only [cond_true] at hk
      simp only [Bool.and_eq_true,beq_iff_eq,decide_eq_true_eq] at hc hn
      obtain ⟨rfl,hkl⟩:=hc
      obtain ⟨u0,hu1,hu2⟩:=hR.fr.get hg
      simp only [RAV,RAVs] at hu2
      obtain ⟨vs,rfl,v0,vs',hvs,h0,rfl⟩:=hu2
      obtain ⟨⟨b,hgb,rfl⟩,_⟩:=h0 _ hl
      have hob:=hR.ob tg _ hl
      simp only [ROb,RAVs,RAV] at hob
      obtain ⟨b',c,ty,hgb',hφ,hbx,sv,vs2,hcs,hdr,rfl⟩:=hob
      have hbb:b' = b:=by rw [hgb] at hgb';simpa using hgb'.symm
      subst hbb
      have hcs:c = #[sv]:=Array.toList_inj.1 (by simpa using hcs)
      subst hcs
      have hvs:vs = #[.pointer (some ⟨b',0,none⟩)]:=Array.toList_inj.1 (by simpa using hvs)
      subst hvs
      have hgt:tmps[p.g]? = some (.func (.func f) #[] #[.pointer (some ⟨b',0,none⟩)]):=by rw [← Array.getElem?_toList];exact hu1
      have hblt:b' < w.heap.size:=(hR.fp tg _ hl b' (by rw [hφ];simp)).2
      obtain ⟨φ1,hR1,hA1⟩:=hR.letgo hl (by rw [hgb];rfl) hφ
      obtain ⟨hR2,hA2,hP2⟩:=hR1.more hA1 (.deferred (some []))
      have hsz:(w.alloc (.deferred (some []))).heap.size = w.heap.size + 1:=yaQy _ _
      refine wpIn_rangeFunc (fun fn _=>?_)
      have hrec:(.loop { state:=.ready,pending:=none,fn,tmps,params:=#[p.p1,p.p2],assign:=p.assign,body:=p.body,defers:=w.heap.size }:Obj) = .loop (recB fn tmps p w.heap.size):=rfl
      obtain ⟨hR3,hA3,hP3⟩:=hR2.more hA2 (.loop (recB fn tmps p w.heap.size))
      rw [hsz] at hR3 hA3 hP3
      have hlen:=ynny hR
      have h3lo:((w.alloc (.deferred (some []))).alloc (.loop (recB fn tmps p w.heap.size))).heap[w.heap.size + 1]? = some (.loop (recB fn tmps p w.heap.size)):=by
       rw [← hsz];exact ycBy _ _
      have h3de:((w.alloc (.deferred (some []))).alloc (.loop (recB fn tmps p w.heap.size))).heap[w.heap.size]? = some (.deferred (some [])):=by
       rw [ybdy _ _ _ (by rw [hsz];omega)];exact ycBy _ _
      have h3bx:((w.alloc (.deferred (some []))).alloc (.loop (recB fn tmps p w.heap.size))).heap[b']? = some (.cells #[sv] ty (0,0)):=by
       rw [ybdy _ _ _ (by rw [hsz];omega),ybdy _ _ _ hblt];exact hbx
      have henter:=run_enterLoop_outer (P:=E.P) (w:=w) fn tmps #[p.p1,p.p2] p.assign p.body
      rw [hrec] at henter
      generalize (w.alloc (.deferred (some []))).alloc (.loop (recB fn tmps p w.heap.size)) = W at hR3 hA3 hP3 h3lo h3de h3bx henter
      have hD:w0.heap.size≤w.heap.size:=hR.left.size
      generalize w.heap.size = D at *
      have hR4:Rel E.T w0 F0 X γ φ1 _ W tmps { fr:=keepB (kp p.B++E.pin) S.fr.length S.fr,st:=S.st.set tg (some (.gone (1,0))) } :=
       ⟨yrYy hR3.fr hlen (fun j _ _=>rfl),hR3.ob,hR3.nd,hR3.disj,hR3.avs,hR3.avlt,hR3.fp,hR3.x,hR3.left,hR3.amb⟩
      have hA4:Apart γ φ1 _ { fr:=keepB (kp p.B++E.pin) S.fr.length S.fr,st:=S.st.set tg (some (.gone (1,0))) } (Three D b'):=hA3
      have hB4:=hR4.rebase hA4
      have hrs:Rels E _ _ _ tmps _ tmps { fr:=keepB (kp p.B++E.pin) S.fr.length S.fr,st:=S.st.set tg (some (.gone (1,0))) }:=⟨⟨γ,φ1,_,hB4⟩,fun j _=>rfl⟩
      obtain ⟨S5,hk5,hr5⟩:=hrs.canonAt hk
      obtain ⟨⟨γ5,φ5,av5,hR5,hA5,hP5⟩,_,_⟩:=yj5y (pin:=E) rfl hR4 hA4 hr5
      have hdr5:DR E.T W av5 (.sl e xs) sv:=((hdr.mono hP2).mono hP3).mono hP5
      obtain ⟨hca,hcb,hL⟩:=hok
      cases hcl:CB p.B with
      | none=>rw [hcl] at hk5;cases hk5
      | some L =>
       rw [hcl] at hk5
       simp only at hk5
       obtain ⟨hL0,hLs⟩:=hL L hcl
       refine ⟨D + 1,[markD D],W,{ target:=.fn (.func f) #[.pointer (some ⟨b',0,none⟩)],args:=#[.func (.yield (D + 1)) #[] #[]] },W,f,#[.func (.yield (D + 1)) #[] #[],.pointer (some ⟨b',0,none⟩)],W,henter,?_,fun _ _=>trivial,?_,(fun h=>by cases h),?_⟩
       ·simp [resolve,yo7y,yghy hgt,Deferred.ofValue,Act.eval]
       ·exact hw.en _ _
       ·refine CallsIn.mono (yCGy hw.ok (D + 1) b' xs.length (fun i W'=>∃ S',HeadB E ⟨f,tS,e,tI,tB⟩ (kp p.B) p w0 F0 X fn tmps D b' sv ty xs W' S'∧L i xs S' K = some res) hn ?_ ⟨S5,⟨⟨γ5,φ5,av5,hR5,hA5,hdr5⟩,h3lo,h3de,h3bx⟩,hk5⟩ ?_ _) ?_
        ·obtain ⟨a,cap,hsv,_,_⟩:=hdr5.sl
         refine ⟨a,cap,?_⟩
         rw [← hsv]
         exact ytyy (ybDy hw.el) h3bx
        ·rintro i W' hi ⟨S',hh,hkL⟩
         obtain ⟨⟨γ',φ',av',hR',hA',hdr'⟩,hlo',hde',hbx'⟩:=hh
         rcases hLs i xs S' with hs | hs
         ·rw [hs] at hkL;cases hkL
         rw [hs] at hkL
         have hx:xs[i]? = some xs[i]:=List.getElem?_eq_getElem hi
         obtain ⟨pv,u,r1,r2,r3⟩:=yEGy (γ:=γ') hw hE.ty hdr' hx S'.look
         refine ⟨sv,pv,u,ytyy (ybDy hw.el) hbx',r1,r2,fn,_,p.assign,p.body,run_yield hlo' rfl,fun m=>?_⟩
         have hz:((recB fn tmps p D).params.zip #[.int .i64 (i:Int),u]).foldl (fun tmps (x:Nat×Value)=>tmps.setIfInBounds x.1 x.2) (recB fn tmps p D).tmps = (tmps.setIfInBounds p.p1 (.int .i64 (i:Int))).setIfInBounds p.p2 u:=yGZy _ _ _ _
         rw [hz]
         exact ywNy E hE hC hm n hca hcb hx hD (by omega) hR' hA' hdr' hlo' hde' hbx' hkL r3 m
        ·rintro en W' ⟨⟨v,rfl⟩,S',hh,hkL⟩
         obtain ⟨⟨γ',φ',av',hR',hA',hdr'⟩,hlo',hde',hbx'⟩:=hh
         rcases hL0 xs S' with hs | hs
         ·rw [hs] at hkL;cases hkL
         rw [hs] at hkL
         simp only [rangePost]
         refine ⟨_,_,run_endLoop hlo' (by simp [recB]),?_⟩
         obtain ⟨hR6,hP6⟩:=hR'.asideO hA' (r:=D + 1) (.inr rfl) (by omega) (.loop { recB fn tmps p D with state:=.exhausted })
         refine hq S' _ D hkL hD ((World.putObj_heap_other (by omega)).trans hde') ⟨γ',φ',av',hR6,fun c hc=>?_⟩
         subst hc
         exact hA' c (.inl (.inr rfl))
   ·cases hk
  ·cases hk
 ·cases hk
end Go.Am
set_option linter.unusedVariables false
set_option linter.unusedSimpArgs false
namespace Go.Am
open Go
variable {A:Nat→Type}
variable {w0 w w':World} {F0:List Nat} {X:Nat→Prop} {γ γ':Nat→Value} {φ φ':Nat→List Nat} {av av':Nat→Prop} {tmps:Array Value} {S S':St A} {R:Type} {P:Program} {res:R}
noncomputable def ymKy (E:Env A) (bw:Bw) (CB:Nat→Option (Nat→ybZy A bw.tE)) (kp:Nat→List Nat) (n:Nat):Code→St A→{R:Type}→(Ex→St A→Option R)→Option R
 | .seq a b,S,_,K =>
  match rfOf a with
  | some p=>aexec E n p.r S fun e S1 =>
   match e with
   | .normal=>rfM E bw CB kp p S1 fun S2=>canonAt ((yagy b).bind E.seqH) S2 fun S3=>aexec E n b S3 K
   | _=>none
  | none=>aexec E n a S fun e S' =>
   match e with
   | .normal=>canonAt ((yagy b).bind E.seqH) S' fun S''=>ymKy E bw CB kp n b S'' K
   | e=>K e S'
 | c,S,_,K=>aexec E n c S K
def ydqy (E:Env A) (bw:Bw) (CB:Nat→Option (Nat→ybZy A bw.tE)) (kp:Nat→List Nat) (n:Nat):Code→Prop
 | .seq a b=>match rfOf a with | some p=>yasy E n p.r∧BOk E bw CB kp n p∧yasy E n b | none=>yasy E n a∧ydqy E bw CB kp n b
 | c=>yasy E n c
def EndB (E:Env A) (w0:World) (F0:List Nat) (X:Nat→Prop) (us:Array Value) (ds:List Deferred) (w:World) (tmps:Array Value) (S:St A):Prop :=
 (ds = []∧Rels E w0 F0 X us w tmps S) ∨ ∃ D,ds = [markD D]∧w0.heap.size≤D∧w.heap[D]? = some (.deferred (some []))∧(∃ γ φ av,Rel E.T w0 F0 X γ φ av w tmps S∧Apart γ φ av S (fun c=>c = D))∧Pins E us tmps
theorem ytAy (E:Env A) (hE:EnvOk E) (hC:yahy E.C) (hm:E.P.follows .mixedOrders = true) (n:Nat) {bw:Bw} (hw:BwFine E.P E.T bw) {CB:Nat→Option (Nat→ybZy A bw.tE)} {kp:Nat→List Nat} {us:Array Value} (nf:Nat):∀ (c:Code),ydqy E bw CB kp n c→∀ (S:St A) (K:Ex→St A→Option R) (tmps:Array Value) (w:World) (Q:Exit→Act→World→Prop),
  ymKy E bw CB kp n c S K = some res→Rels E w0 F0 X us w tmps S→(∀ e S' tmps' w' ds,K e S' = some res→EndB E w0 F0 X us ds w' tmps' S'→Q e.toExit ⟨tmps',ds⟩ w')→c.wpIn Fence.wide nf E.P Q ⟨tmps,[]⟩ w:=by
 intro c
 induction c with
 | seq a b iha ihb =>
  intro hc S K tmps w Q hk hr hq
  simp only [ymKy] at hk
  simp only [ydqy] at hc
  cases hro:rfOf a with
  | some p =>
   rw [hro] at hk hc
   simp only at hk hc
   obtain ⟨hc1,hc2,hc3⟩:=hc
   obtain rfl:=yGSy hro
   refine wpIn_seq (wpIn_seq (ygoy E yg1y [] hE hC hm n p.r hc1 S _ tmps w _ hk hr (fun ex S1 tmps1 w1 h1 h2=>?_)))
   cases ex with
   | exit i=>cases h1
   | ret=>cases h1
   | normal =>
    simp only at h1
    simp only [Ex.toExit,Exit.then]
    refine wpIn_block (yDUy E hE hC hm n hw hc2 S1 _ tmps1 w1 _ nf h1 h2 (fun S2 w2 D h3 hD hde hrel=>?_))
    obtain ⟨γ2,φ2,av2,hR2,hA2⟩:=hrel
    simp only [Exit.inBlock,Exit.then]
    have hB2:=hR2.rebase hA2
    have hrs:Rels E _ _ _ us _ tmps1 S2:=⟨⟨γ2,φ2,av2,hB2⟩,h2.2⟩
    obtain ⟨S3,h4,h5⟩:=hrs.canonAt h3
    refine ygoy E yg1y [markD D] hE hC hm n b hc3 S3 _ tmps1 w2 _ h4 h5 (fun ex S4 tmps4 w4 h6 h7=>?_)
    obtain ⟨⟨γ4,φ4,av4,hR4,hA4,_⟩,hY4,hp4⟩:=yj5y (pin:=E) rfl hR2 hA2 h7
    exact hq ex S4 tmps4 w4 _ h6 (.inr ⟨D,rfl,hD,(hY4 D rfl).trans hde,⟨γ4,φ4,av4,hR4,hA4⟩,hp4⟩)
  | none =>
   rw [hro] at hk hc
   simp only at hk hc
   obtain ⟨hca,hcb⟩:=hc
   refine wpIn_seq (ygoy E yg1y [] hE hC hm n a hca S _ tmps w _ hk hr (fun e S' tmps' w' h1 h2=>?_))
   cases e with
   | normal =>
    obtain ⟨S'',h3,h4⟩:=h2.canonAt h1
    exact ihb hcb S'' K _ _ Q h3 h4 hq
   | exit i=>exact hq (.exit i) S' _ _ [] h1 (.inl ⟨rfl,h2⟩)
   | ret=>exact hq .ret S' _ _ [] h1 (.inl ⟨rfl,h2⟩)
 | _=>intro hc S K tmps w Q hk hr hq;simp only [ymKy] at hk;simp only [ydqy] at hc;exact ygoy E yg1y [] hE hC hm n _ hc S K tmps w Q hk hr (fun e S' tmps' w' h1 h2=>hq e S' _ _ [] h1 (.inl ⟨rfl,h2⟩))
noncomputable def ymBy (E:Env A) (bw:Bw) (CB:Nat→Option (Nat→ybZy A bw.tE)) (kp:Nat→List Nat) (fn:Func) (code:Code) (nst:Nat) (argTags:List Nat) (sh:List Shape) (n:Nat):Spec A:=fun args _ k =>
 match yaLy 64 args argTags with
 | some (vs,u,_) =>
  bif ycky argTags&&(argTags.all (fun t=>decide (t < nst))&&E.pin.all (fun i=>decide (i < vs.length))) then
  ymKy E bw CB kp n code (St.upd { fr:=vs++List.replicate (fn.ntmps - vs.length) .undef,st:=List.replicate nst none } u) fun e S =>
   match e with
   | .normal | .ret=>yejy E sh fn.results.toList vs.length S k
   | .exit _=>none
  else none
 | none=>none
theorem ytjy (E:Env A) (hE:EnvOk E) (hC:yahy E.C) (hm:E.P.follows .mixedOrders = true) {bw:Bw} (hw:BwFine E.P E.T bw) (CB:Nat→Option (Nat→ybZy A bw.tE)) (kp:Nat→List Nat) {f:Nat} {fn:Func} {code:Code} (hf:E.P.funcs[f]? = some fn) (hb:fn.body = some code)
  (nst:Nat) (argTags:List Nat) (sh:List Shape) (n:Nat) (hcut:ydqy E bw CB kp n code):yany E.P E.T f (ymBy E bw CB kp fn code nst argTags sh n):=by
 intro args R k res hk w vs F av hargs hnd hav hlt hamb
 unfold ymBy at hk
 cases hp:yaLy 64 args argTags with
 | none=>simp [hp] at hk
 | some q =>
  obtain ⟨xs,u,fs⟩:=q
  simp only [hp] at hk
  cases hc:ycky argTags&&(argTags.all (fun t=>decide (t < nst))&&E.pin.all (fun i=>decide (i < xs.length))) with
  | false=>simp [hc] at hk
  | true =>
   simp only [hc,cond_true] at hk
   simp only [Bool.and_eq_true,List.all_eq_true,decide_eq_true_eq] at hc
   obtain ⟨hc1,hc2,hc3⟩:=hc
   have hc1:=ybYy hc1
   let S0:St A:={ fr:=[],st:=List.replicate nst none }
   have hl0:∀ t,S0.look t = none:=by
    intro t
    simp only [S0,St.look,List.getElem?_replicate]
    split <;> rfl
   have h0:Rel E.T w F (fun b=>av b∧b ∉ F) (fun _=>undef) (fun _=>[]) av w #[] S0:=by
    refine ⟨by simp [S0,RAVs],?_,?_,?_,?_,hlt,?_,fun b hb=>⟨hlt b hb.1,hb.2⟩,⟨rfl,⟨rfl,fun _=>Nat.le_refl _⟩,rfl,Nat.le_refl _,fun _ _ _=>rfl⟩,hamb⟩
    ·intro t o ho;rw [hl0] at ho;cases ho
    ·intro t o ho;rw [hl0] at ho;cases ho
    ·intro t o t' o' ho;rw [hl0] at ho;cases ho
    ·rintro b (hb | ⟨t,o,ho,_⟩)
     ·exact hb.1
     ·rw [hl0] at ho;cases ho
    ·intro t o ho;rw [hl0] at ho;cases ho
   have hocc0:∀ t,occSt t S0 = false:=by
    intro t
    unfold occSt
    simp only [S0,yady,Bool.false_or]
    induction nst with
    | zero=>rfl
    | succ m ih=>simp [occOb]
   obtain ⟨us0,g1,g2,g3,g4⟩:=(ycxy 64).2 _ _ _ _ _ hp
   obtain ⟨γ1,φ1,used,a1,a2,a3,a4,a5,a6,a7⟩:=(yeyy 64).2 _ _ _ _ _ _ _ S0 _ _ hp h0 hargs hnd
    ⟨hav,fun b hb hx=>hx.2 hb,fun b hb t o ho=>(by rw [hl0] at ho;cases ho),fun b hb=>⟨.inl hb,hlt b (hav b hb)⟩⟩ hc1 (fun t _=>hl0 t)
    (fun y hy=>⟨by simpa [S0] using hc2 y.1 (by rw [g1];simp [g4 y hy]),hocc0 _⟩)
   have hend:∀ (e:Ex) (S':St A) (tmps':Array Value) (w':World) (ds:List Deferred),(match e with | .normal | .ret=>yejy E sh fn.results.toList xs.length S' k | .exit _=>none) = some res →
     EndB E w F (fun b=>av b∧b ∉ F) vs.toArray ds w' tmps' S'→bodyPostM Fence.wide 0 E.P fn (fun e w'=>∃ r args' v F1 F2 av',k r args' = some res∧e = .returned v∧RIV E.T w' av' r v F1∧RIVs E.T w' av' args' vs F2∧(F1++F2).Nodup ∧
      (∀ b,(av b∧b ∉ F) ∨ b∈F1++F2→av' b)∧(∀ b∈F1++F2,(b∈F ∨ w.heap.size≤b)∧b < w'.heap.size)∧Left E.T w w' (·∈F)) e.toExit ⟨tmps',ds⟩ w':=by
    intro e S' tmps' w' ds h1 h2
    have hlen:xs.length = vs.toArray.size:=by simpa using a3.len.symm
    have hfin:yejy E sh fn.results.toList xs.length S' k = some res→LeavesInM Fence.wide 0 E.P fn tmps' (fun e w'=>∃ r args' v F1 F2 av',k r args' = some res∧e = .returned v∧RIV E.T w' av' r v F1∧RIVs E.T w' av' args' vs F2∧(F1++F2).Nodup ∧
      (∀ b,(av b∧b ∉ F) ∨ b∈F1++F2→av' b)∧(∀ b∈F1++F2,(b∈F ∨ w.heap.size≤b)∧b < w'.heap.size)∧Left E.T w w' (·∈F)) ds .returning w':=by
     intro h1
     rw [hlen] at h1
     rcases h2 with ⟨rfl,h2⟩ | ⟨D,rfl,hD,hde,⟨γ2,φ2,av2,hR2,hA2⟩,hp2⟩
     ·simp only [LeavesInM,LeavesIn]
      obtain ⟨v,h3,r,args',F1,F2,av',h4,h5,h6,h7,h8,h9,h10⟩:=yc0y E h2 h1
      exact ⟨v,h3,r,args',v,F1,F2,av',h4,rfl,h5,by simpa using h6,h7,h8,h9,h10⟩
     ·simp only [LeavesInM]
      refine ⟨by simp,.inl ⟨D,_,rfl,run_takeDeferred hde,?_⟩⟩
      simp only [LeavesIn]
      obtain ⟨hR3,_⟩:=hR2.asideO hA2 (r:=D) rfl hD (.deferred none)
      obtain ⟨v,h3,r,args',F1,F2,av',h4,h5,h6,h7,h8,h9,h10⟩:=yc0y E ⟨⟨γ2,φ2,av2,hR3⟩,hp2⟩ h1
      exact ⟨v,h3,r,args',v,F1,F2,av',h4,rfl,h5,by simpa using h6,h7,h8,h9,h10⟩
    cases e with
    | normal=>exact hfin h1
    | ret=>exact hfin h1
    | exit i=>cases h1
   refine callsIn_wide.1 (callsIn_of_wp_marks hf hb trivial (ytAy E hE hC hm n hw (w0:=w) (F0:=F) (X:=fun b=>av b∧b ∉ F) (us:=vs.toArray) 0 code hcut _ _ _ w _ hk ⟨⟨γ1,φ1,av,?_⟩,?_⟩ (fun e S' tmps' w' ds h1 h2=>hend e S' tmps' w' ds h1 h2)))
   ·-- the slots
    have hst:St.upd { fr:=xs++List.replicate (fn.ntmps - xs.length) .undef,st:=List.replicate nst none } u = { fr:=xs++List.replicate (fn.ntmps - xs.length) .undef,st:=(S0.upd u).st }:=by
     have key:∀ (u:Upd A) (fr fr':List (AV A)) (st:List (Option (Ob A))),St.upd { fr:=fr,st:=st } u = { fr:=fr,st:=(St.upd { fr:=fr',st:=st } u).st }:=by
      intro u
      induction u with
      | nil=>intro fr fr' st;rfl
      | cons x r ih=>intro fr fr' st;exact ih fr fr' _
     exact key u _ [] _
    rw [hst]
    refine ⟨?_,a2.ob,a2.nd,a2.disj,a2.avs,a2.avlt,a2.fp,a2.x,a2.left,a2.amb⟩
    have hrep:∀ m,RAVs E.T w av (S0.upd u).look γ1 (List.replicate m .undef) (List.replicate m undef):=by
     intro m
     induction m with
     | zero=>simp [RAVs]
     | succ m ih=>simp only [List.replicate_succ,RAVs];exact ⟨_,_,rfl,trivial,ih⟩
    have:=a3.append (hrep (fn.ntmps - xs.length))
    rw [a3.len.symm] at this ⊢
    have htl:(vs.toArray++Array.replicate (fn.ntmps - vs.toArray.size) undef).toList = vs++List.replicate (fn.ntmps - vs.length) undef:=by simp
    show RAVs E.T w av (S0.upd u).look γ1 _ _
    rw [htl]
    exact this
   ·intro i hi
    have hlt':i < vs.length:=by rw [a3.len];exact hc3 i hi
    simp [Array.getElem?_append,hlt']
theorem yIky {P:Program} {T:Ty A} {kt ft:Nat→Bool} {st:Nat→Option (Sp A)} (h:Std P T kt ft st) {C:List (Nat×Spec A)} (ht:TabOk P T C) {E:Env A} (hE:E.P = P∧E.T = T∧E.C = (fun f=>C.lookup f)∧E.keyed = kt∧E.flat = ft∧E.sp = st) {bw:Bw} (hw:BwFine P T bw) {CB:Nat→Option (Nat→ybZy A bw.tE)} {kp:Nat→List Nat} {f:Nat} {fn:Func} {code:Code}
  {nst:Nat} {tags:List Nat} {sh:List Shape} {n:Nat} {B S:Spec A} (hs:Same B (ymBy E bw CB kp fn code nst tags sh n)) (hwh:Whole S B) (na:yaIy S) (hc:ydqy E bw CB kp n code) (hf:P.funcs[f]? = some fn) (hn:(fn.name == "runtime.NumGoroutine") = false) (hb:fn.body = some code):OkF P T f S:=by
 obtain ⟨hP,hT,hEC,hk,hfl,hst⟩:=hE
 subst hP hT hk hfl hst
 have hC:yahy E.C:=by rw [hEC];exact ht.nat
 have hO:EnvOk E:=⟨h.ty,by rw [hEC];exact ymWy fun p hp=>⟨(ht p hp).fs,(ht p hp).en⟩,h.flat,h.keys,h.sp⟩
 refine ⟨fun args R k res hk=>?_,na,enters_of hf hn (by rw [hb];rfl)⟩
 obtain ⟨p,h1,h2⟩:=hwh args R k res hk
 have hfs:=ytjy E hO hC h.mixed hw CB kp hf hb nst tags sh n hc
 intro w vs F av a1 a2 a3 a4 a5
 have h3:ymBy E bw CB kp fn code nst tags sh n args (fun r ys=>some (r,ys)) = some p:=by
  rcases hs args with hh | hh
  ·rw [hh] at h1;cases h1
  ·rw [hh] at h1;exact h1
 refine Calls.mono (hfs args _ _ p h3 w vs F av a1 a2 a3 a4 a5) ?_
 rintro e w' ⟨r,args',v,F1,F2,av',b1,b2⟩
 simp only [Option.some.injEq] at b1
 subst b1
 exact ⟨r,args',v,F1,F2,av',h2,b2⟩
end Go.Am
set_option linter.unusedVariables false
set_option linter.unusedSimpArgs false
namespace Go.Am
open Go
variable {A:Nat→Type} {P:Program}
def onlyN {A:Nat→Type} {R:Type} (K:St A→Option R):Ex→St A→Option R:=fun ex S=>match ex with | .normal=>K S | _=>none
def yALy (e:Nat) (sh:SSt) (lp:Nat→List (A e)→LPT A):Nat→ybZy A e:=fun i xs S _ K=>yajy sh (lp i xs) S (onlyN K)
abbrev yyIy (E:Env A) (n0:Nat) (kp:List Nat) (p:RfP) (e:Nat) (sh:SSt) (lp:Nat→List (A e)→LPT A) (i:Nat):Prop:=∀ xs ps,(∀ (R:Type) (K:Ex→St A→Option R),lp (i + 1) xs ps K = none) ∨ ∀ (R:Type) (K:Ex→St A→Option R),lp (i + 1) xs ps K =
 onS sh ps fun S=>ymGy E n0 kp p e i xs S (fun S'=>yajy sh (lp i xs) S' K)
abbrev yx6y (e:Nat) (sh:SSt) (lp:Nat→List (A e)→LPT A):Prop:=∀ xs ps,(∀ (R:Type) (K:Ex→St A→Option R),lp 0 xs ps K = none) ∨ ∀ (R:Type) (K:Ex→St A→Option R),lp 0 xs ps K = onS sh ps fun S=>K .normal S
theorem yBVy {E:Env A} {bw:Bw} {CB:Nat→Option (Nat→ybZy A bw.tE)} {kp:Nat→List Nat} {n:Nat} {p:RfP} (sh:SSt) (lp:Nat→List (A bw.tE)→LPT A) (he:CB p.B = some (yALy bw.tE sh lp))
  (h1:yasy (pinB E (kp p.B)) n p.assign) (h2:yasy (pinB E (kp p.B)) n p.body) (h0:yx6y bw.tE sh lp) (hs:∀ i,yyIy E n (kp p.B) p bw.tE sh lp i):BOk E bw CB kp n p:=by
 refine ⟨h1,h2,fun L hL=>?_⟩
 rw [he] at hL
 obtain rfl:=Option.some.inj hL
 refine ⟨fun xs S=>?_,fun i xs S=>?_⟩
 ·cases hd:decSt sh S with
  | none=>exact .inl fun R K=>ydBy hd _
  | some ps =>
   rcases h0 xs ps with h | h
   ·refine .inl fun R K=>?_
    show yajy sh (lp 0 xs) S (onlyN K) = none
    rw [ybLy hd,h]
   ·refine .inr fun R K=>?_
    show yajy sh (lp 0 xs) S (onlyN K) = K S
    rw [ybLy hd,h]
    unfold onS
    rw [yi2y hd]
    rfl
 ·cases hd:decSt sh S with
  | none=>exact .inl fun R K=>ydBy hd _
  | some ps =>
   rcases hs i xs ps with h | h
   ·refine .inl fun R K=>?_
    show yajy sh (lp (i + 1) xs) S (onlyN K) = none
    rw [ybLy hd,h]
   ·refine .inr fun R K=>?_
    show yajy sh (lp (i + 1) xs) S (onlyN K) = ymGy E n (kp p.B) p bw.tE i xs S (fun S'=>yajy sh (lp i xs) S' (onlyN K))
    rw [ybLy hd,h]
    unfold onS
    rw [yi2y hd]
def yqqy:Code→List Code
 | .seq a b=>match rfOf a with | some p=>ybfy p.r++ybfy b | none=>ybfy a++yqqy b
 | c=>ybfy c
def rfsOf:Code→List RfP
 | .seq a b=>match rfOf a with | some p=>[p] | none=>rfsOf b
 | _=>[]
def BackL (E:Env A) (bw:Bw) (CB:Nat→Option (Nat→ybZy A bw.tE)) (kp:Nat→List Nat) (n:Nat) (l:List RfP):Prop:=∀ p∈l,BOk E bw CB kp n p
theorem BackL.nil {E:Env A} {bw:Bw} {CB:Nat→Option (Nat→ybZy A bw.tE)} {kp:Nat→List Nat} {n:Nat}:BackL E bw CB kp n []:=fun _ h=>by cases h
theorem BackL.cons {E:Env A} {bw:Bw} {CB:Nat→Option (Nat→ybZy A bw.tE)} {kp:Nat→List Nat} {n:Nat} {p:RfP} {l:List RfP} (h:BOk E bw CB kp n p) (t:BackL E bw CB kp n l):BackL E bw CB kp n (p::l):=by
 intro q hq
 rcases List.mem_cons.1 hq with rfl | hq
 ·exact h
 ·exact t q hq
theorem yIMy {E:Env A} {bw:Bw} {CB:Nat→Option (Nat→ybZy A bw.tE)} {kp:Nat→List Nat} {n:Nat} (hS:∀ i,E.cutS i = none):∀ (c:Code),(∀ b∈yqqy c,yaiy E n b)→(∀ p∈rfsOf c,BOk E bw CB kp n p)→ydqy E bw CB kp n c:=by
 intro c
 induction c with
 | seq a b iha ihb =>
  intro h hr
  simp only [ydqy]
  simp only [yqqy] at h
  simp only [rfsOf] at hr
  cases hro:rfOf a with
  | some p =>
   rw [hro] at h hr
   simp only [List.mem_append] at h
   exact ⟨yeVy hS _ (fun x hx=>h x (.inl hx)),hr p (by simp),yeVy hS _ (fun x hx=>h x (.inr hx))⟩
  | none =>
   rw [hro] at h hr
   simp only [List.mem_append] at h
   exact ⟨yeVy hS _ (fun x hx=>h x (.inl hx)),ihb (fun x hx=>h x (.inr hx)) hr⟩
 | _=>intro h _;simp only [ydqy];exact yeVy hS _ h
theorem cutsB {E:Env A} {bw:Bw} {CB:Nat→Option (Nat→ybZy A bw.tE)} {kp:Nat→List Nat} {n:Nat} {c:Code} {l:List Code} {ps:List RfP} (hS:∀ i,E.cutS i = none) (hf:FineL E n l) (hp:BackL E bw CB kp n ps) (hl:yqqy c = l) (hr:rfsOf c = ps):ydqy E bw CB kp n c :=
 yIMy hS c (by rw [hl];exact hf) (by rw [hr];exact hp)
structure BwP where
 r0:Nat
 b0:Nat
 r1:Nat
 b1:Nat
 r3:Nat
 r2:Nat
 o0:Array Oper
 o1:Array Oper
 o3:Array Oper
 o2:Array Oper
def BwP.code (p:BwP):Code:=.seq (.region p.r0 p.o0 false) (.block p.b0 (.loop (.seq (.seq (.region p.r1 p.o1 false) (.cond (.tmp 8) .skip (.exit p.b0))) (.seq (.block p.b1 (.seq (.region p.r3 p.o3 false) (.cond (.tmp 18) .ret .skip))) (.region p.r2 p.o2 false)))))
def bwP:Option Code→Option BwP
 | some (.seq (.region r0 o0 false) (.block b0 (.loop (.seq (.seq (.region r1 o1 false) (.cond (.tmp 8) .skip (.exit _))) (.seq (.block b1 (.seq (.region r3 o3 false) (.cond (.tmp 18) .ret .skip))) (.region r2 o2 false))))))=>some { r0,b0,r1,b1,r3,r2,o0,o1,o3,o2 }
 | _=>none
theorem yGzy {f1 tS tE tI tB:Nat} {fn:Func} (hf:P.funcs[f1]? = some fn) (p:BwP) (hn:fn.ntmps = 19) (hr:fn.results = #[]) (hb:fn.body = some p.code) (h0:tri p.o0 = bw0 tS tI) (h1:tri p.o1 = bw1 tI) (h3:tri p.o3 = bw3 tS tE tI tB) (h2:tri p.o2 = bw2 tI)
  (hs:P.underlying tS = some (.slice tE)) (hi:P.underlying tI = some (.int .i64)):BwOk P f1 tS tE tI tB :=
 ⟨⟨fn,p.r0,p.b0,p.r1,p.b1,p.r3,p.r2,p.o0,p.o1,p.o3,p.o2,hf,hn,hr,hb,h0,h1,h3,h2⟩,⟨tE,hs⟩,hi⟩
end Go.Am
