/- Part of an abstract machine for this program, with its soundness: AmOps5. No condition: lemmas for the claim. -/
import Derived.Test.YtoajjnhmofegcaaGreatDoorAmOps2
import Derived.WideLaws
import Derived.MapKept
set_option linter.unusedVariables false
set_option linter.unusedSimpArgs false
namespace Go.Am
open Go
variable {A:Nat→Type}
variable {T:Ty A} {w0 w w':World} {F0:List Nat} {X:Nat→Prop} {γ γ':Nat→Value} {φ φ':Nat→List Nat} {av av':Nat→Prop} {tmps:Array Value} {S S':St A} {R:Type} {P:Program}
variable {k:AV A→Upd A→List Nat→Option R} {res:R}
theorem yxHy (E:Env A) (h:Rel E.T w0 F0 X γ φ av w tmps S) {o:Oper} {x:Operand} {ds:List Deferred} (ho:o.op = .move x ∨ o.op = .assign x)
  (hk:opK E S.look (yafy S.fr) k o = some res):Did E.T w0 F0 X tmps S k res ((execOp (Act.eval ⟨tmps,ds⟩) o).run E.P w):=by
 unfold opK at hk
 rcases ho with ho | ho <;> simp only [ho] at hk <;> exact yaty (u:=Act.eval ⟨tmps,ds⟩ x) h hk (by simp [execOp,ho]) (h.eval ds x)
theorem yFty (E:Env A) (h:Rel E.T w0 F0 X γ φ av w tmps S) {o:Oper} {c a b:Operand} {ds:List Deferred} (ho:o.op = .pick c a b)
  (hk:opK E S.look (yafy S.fr) k o = some res):Did E.T w0 F0 X tmps S k res ((execOp (Act.eval ⟨tmps,ds⟩) o).run E.P w):=by
 have hc:=h.eval ds c
 have ha:=h.eval ds a
 have hb:=h.eval ds b
 unfold opK at hk
 simp only [ho] at hk
 generalize yafy S.fr c = vc at hk hc
 generalize yafy S.fr a = va at hk ha
 generalize yafy S.fr b = vb at hk hb
 cases vc <;> (try simp only at hk) <;> try (cases hk;done)
 rename_i dc
 cases dc <;> (try simp only at hk) <;> try (cases hk;done)
 rename_i bc
 simp only [RAV,DR.bool] at hc
 cases hp:yu1y bc va vb with
 | none=>simp [hp] at hk
 | some v =>
  simp only [hp,Option.bind_some] at hk
  refine yaty (u:=if bc then Act.eval ⟨tmps,ds⟩ a else Act.eval ⟨tmps,ds⟩ b) h hk (by simp [execOp,ho,hc,asBool]) ?_
  unfold yu1y at hp
  split at hp
  ·simp only [Option.some.injEq] at hp
   subst hp
   simp only [RAV,DR.bool] at ha hb ⊢
   cases bc <;> simp [ha,hb]
  ·cases bc <;> simp at hp
   subst hp
   simpa using hb
  ·cases bc <;> simp at hp
   subst hp
   simpa using ha
  ·cases bc <;> simp at hp
   subst hp
   simpa using hb
  ·cases bc <;> simp at hp
   subst hp
   simpa using ha
  ·cases hp
theorem yzLy (E:Env A) (h:Rel E.T w0 F0 X γ φ av w tmps S) {o:Oper} {x:Operand} {i:Nat} {ds:List Deferred} (ho:o.op = .extract x i)
  (hk:opK E S.look (yafy S.fr) k o = some res):Did E.T w0 F0 X tmps S k res ((execOp (Act.eval ⟨tmps,ds⟩) o).run E.P w):=by
 have hx:=h.eval ds x
 unfold opK at hk
 simp only [ho] at hk
 unfold execOp
 simp only [ho]
 generalize yafy S.fr x = v at hk hx
 generalize Act.eval ⟨tmps,ds⟩ x = u at hx
 cases v <;> (try simp only at hk) <;> try (cases hk;done)
 rename_i cs
 cases hi:cs[i]? with
 | none=>simp [hi] at hk
 | some y =>
  simp only [hi,Option.bind_some] at hk
  simp only [RAV] at hx
  obtain ⟨vs,rfl,hvs⟩:=hx
  obtain ⟨u,hu,hr⟩:=hvs.at i y hi
  have hu':vs[i]? = some u:=by simpa using hu
  exact yaty (u:=u) h hk (by simp [Instr.extract,hu']) hr
theorem yxky (E:Env A) (h:Rel E.T w0 F0 X γ φ av w tmps S) {o:Oper} {x:Operand} {ds:List Deferred} (ho:o.op = .nilCheck x)
  (hk:opK E S.look (yafy S.fr) k o = some res):Did E.T w0 F0 X tmps S k res ((execOp (Act.eval ⟨tmps,ds⟩) o).run E.P w):=by
 have hx:=h.eval ds x
 unfold opK at hk
 simp only [ho] at hk
 unfold execOp
 simp only [ho]
 generalize yafy S.fr x = v at hk hx
 generalize Act.eval ⟨tmps,ds⟩ x = u at hx
 cases v <;> (try simp only at hk) <;> try (cases hk;done)
 case ptr t off =>
  cases hl:S.look t with
  | none=>simp [hl] at hk
  | some ob =>
   simp only [hl] at hk
   have hx':=hx
   simp only [RAV] at hx'
   obtain ⟨⟨b,_,rfl⟩,_⟩:=hx' ob hl
   exact yaty h hk rfl hx
 case elp e t i off =>
  cases hl:S.look t with
  | none=>simp [hl] at hk
  | some ob =>
   simp only [hl] at hk
   have hx':=hx
   simp only [RAV] at hx'
   obtain ⟨⟨b,_,_,_,rfl⟩,_⟩:=hx' ob hl
   exact yaty h hk rfl hx
 case cel cs off =>
  have hx':=hx
  simp only [RAV] at hx'
  obtain ⟨b,o',c,ty,fz,rfl,_⟩:=hx'
  exact yaty h hk rfl hx
 case fn f cs =>
  have hx':=hx
  simp only [RAV] at hx'
  obtain ⟨vs,rfl,_⟩:=hx'
  exact yaty h hk rfl hx
theorem yxwy (E:Env A) (h:Rel E.T w0 F0 X γ φ av w tmps S) {o:Oper} {fn:Fn} {fs cs:Array Operand} {ds:List Deferred} (ho:o.op = .makeFunc fn fs cs)
  (hk:opK E S.look (yafy S.fr) k o = some res):Did E.T w0 F0 X tmps S k res ((execOp (Act.eval ⟨tmps,ds⟩) o).run E.P w):=by
 unfold opK at hk
 simp only [ho] at hk
 cases fn <;> (try simp only at hk) <;> try (cases hk;done)
 rename_i f
 cases hfs:fs.toList with
 | cons a r=>simp [hfs] at hk
 | nil =>
  simp only [hfs] at hk
  have hfs':fs = #[]:=by simpa using hfs
  subst hfs'
  refine yaty (u:=.func (.func f) #[] (cs.map (Act.eval ⟨tmps,ds⟩))) h hk (by simp [execOp,ho,Instr.makeFunc]) ?_
  simp only [RAV]
  refine ⟨_,rfl,RAVs.of_cells (by simp) (fun j x hj=>?_)⟩
  simp only [List.getElem?_map,Option.map_eq_some_iff] at hj
  obtain ⟨a,ha,rfl⟩:=hj
  exact ⟨Act.eval ⟨tmps,ds⟩ a,by simp at ha;simp [ha],h.eval ds a⟩
theorem yEIy (E:Env A) (h:Rel E.T w0 F0 X γ φ av w tmps S) {o:Oper} {op:UnOp} {t:TypeId} {x:Operand} {ds:List Deferred} (ho:o.op = .unOp op t x)
  (hk:opK E S.look (yafy S.fr) k o = some res):Did E.T w0 F0 X tmps S k res ((execOp (Act.eval ⟨tmps,ds⟩) o).run E.P w):=by
 have hx:=h.eval ds x
 unfold opK at hk
 simp only [ho] at hk
 unfold execOp
 simp only [ho]
 generalize yafy S.fr x = v at hk hx
 generalize Act.eval ⟨tmps,ds⟩ x = u at hx
 cases op <;> (try simp only at hk) <;> try (cases hk;done)
 all_goals
  cases v <;> (try simp only at hk) <;> try (cases hk;done)
  rename_i dv
  cases dv <;> (try simp only at hk) <;> try (cases hk;done)
 ·simp only [RAV,DR.int] at hx
  subst hx
  exact yaty h hk (by simp [Op.unary,Op.intArith];rfl) (by simp [RAV,DR.int])
 ·simp only [RAV,DR.bool] at hx
  subst hx
  exact yaty h hk (by simp [Op.unary];rfl) (by simp [RAV,DR.bool])
theorem yzfy (E:Env A) (h:Rel E.T w0 F0 X γ φ av w tmps S) {o:Oper} {s d:TypeId} {x:Operand} {ds:List Deferred} (ho:o.op = .convert s d x)
  (hk:opK E S.look (yafy S.fr) k o = some res):Did E.T w0 F0 X tmps S k res ((execOp (Act.eval ⟨tmps,ds⟩) o).run E.P w):=by
 have hx:=h.eval ds x
 unfold opK at hk
 simp only [ho] at hk
 unfold execOp
 simp only [ho]
 generalize yafy S.fr x = v at hk hx
 generalize Act.eval ⟨tmps,ds⟩ x = u at hx
 cases hs:E.P.underlying s with
 | none=>simp [hs] at hk
 | some sd =>
 cases hd:E.P.underlying d with
 | none=>simp [hd] at hk
 | some dd =>
 rw [hs,hd] at hk
 cases v <;> (try simp only at hk) <;> try (cases hk;done)
 case d dv =>
  cases dv <;> (try simp only at hk) <;> try (cases hk;done)
  case int ki n =>
   simp only [RAV,DR.int] at hx
   subst hx
   cases dd <;> (try simp only at hk) <;> try (cases hk;done)
   case int kd =>
    exact yaty (u:=.int kd (kd.wrap n)) h hk (by simp [convert,run_underlying hs,run_underlying hd,Conv.intToInt]) (by simp [RAV,DR.int])
   case string =>
    cases hb:(decide (0≤n)&&decide (n < 128)) with
    | false=>simp [hb] at hk
    | true =>
     rw [hb] at hk
     simp only [cond_true] at hk
     simp only [Bool.and_eq_true,decide_eq_true_eq] at hb
     obtain ⟨h0,h1⟩:=hb
     refine yaty (u:=.string ⟨⟨[n.toNat.toUInt8]⟩⟩) h hk ?_ (by simp [RAV,DR.str])
     have hv:Utf8.valid n = true:=by simp [Utf8.valid];omega
     have hn:n.toNat < 128:=by omega
     simp only [convert,Sem.run_bind,run_underlying hs,run_underlying hd,Result.andThen_ok]
     simp [Conv.intToString,Utf8.encode,hv,hn]
  case str st =>
   simp only [RAV,DR.str] at hx
   subst hx
   cases dd <;> (try simp only at hk) <;> try (cases hk;done)
   refine yaty (u:=.string ⟨⟨st⟩⟩) h hk ?_ (by simp [RAV,DR.str])
   simp only [convert,Sem.run_bind,run_underlying hs,run_underlying hd,Result.andThen_ok]
   cases sd <;> simp
theorem yhky (a:List UInt8):(⟨⟨a⟩⟩:ByteArray).toList = a:=by rw [ByteArray.toList_eq]
theorem ysqy (E:Env A) (h:Rel E.T w0 F0 X γ φ av w tmps S):∀ n,
  (∀ t x y u v b d,n≤d→RAV E.T w av S.look γ x u→RAV E.T w av S.look γ y v→eqT E.P n t x y = some b→(Op.equalIn d t u v).run E.P w = .ok b w) ∧
  (∀ fs xs ys us vs b d,n≤d→RAVs E.T w av S.look γ xs us.toList→RAVs E.T w av S.look γ ys vs.toList→eqF E.P n fs xs ys = some b→(Op.eqFields d us vs fs).run E.P w = .ok b w):=by
 intro n
 induction n with
 | zero=>exact ⟨fun t x y u v b d _ _ _ h=>by simp [eqT] at h,fun fs xs ys us vs b d _ _ _ h=>by simp [eqF] at h⟩
 | succ n ih =>
  refine ⟨fun t x y u v b d hd hx hy he=>?_,fun fs xs ys us vs b d hd hx hy he=>?_⟩
  ·obtain ⟨d,rfl⟩:∃ m,d = m + 1:=⟨d - 1,by omega⟩
   simp only [eqT] at he
   cases hu:E.P.underlying t with
   | none=>simp [hu] at he
   | some td =>
    rw [hu] at he
    have hone:eqOne td x y = some b→(Op.equalIn (d + 1) t u v).run E.P w = .ok b w:=by
     intro ho
     unfold eqOne at ho
     split at ho
     ·split at ho
      ·rename_i hkk
       simp only [Option.some.injEq] at ho
       simp only [RAV,DR.int] at hx hy
       subst hx hy ho hkk
       exact run_equalIn_int w d t _ _ _ _ hu
      ·cases ho
     ·simp only [Option.some.injEq] at ho
      simp only [RAV,DR.bool] at hx hy
      subst hx hy ho
      exact run_equalIn_bool' w d t _ _ hu
     ·simp only [Option.some.injEq] at ho
      simp only [RAV,DR.str] at hx hy
      subst hx hy ho
      rw [run_equalIn_string w d t _ _ hu,yhky,yhky]
     ·cases ho
    cases td <;> (try dsimp only at he) <;> try (exact hone he)
    rename_i fs
    cases x <;> (try dsimp only at he) <;> try (exact hone he)
    cases y <;> (try dsimp only at he) <;> try (exact hone he)
    split at he
    ·cases he
    ·rename_i hst
     simp only [RAV] at hx hy
     obtain ⟨us,rfl,hus⟩:=hx
     obtain ⟨vs,rfl,hvs⟩:=hy
     have hfo:E.P.fieldsOf t = fs:=by simp [Program.fieldsOf,hu]
     rw [run_equalIn_struct w d t us vs (by rw [hfo];exact hu) (by simpa using hst),hfo]
     exact ih.2 _ _ _ us vs b d (by omega) hus hvs he
  ·cases fs with
   | nil=>simp [eqF] at he;subst he;simp [Op.eqFields]
   | cons f fs =>
    simp only [eqF] at he
    split at he
    ·cases he
    ·rename_i hname
     cases ha:ybUy E.P f.type xs f.offset with
     | none=>simp [ha] at he
     | some a =>
      cases hb:ybUy E.P f.type ys f.offset with
      | none=>simp [ha,hb] at he
      | some b' =>
       simp only [ha,hb] at he
       cases h1:eqT E.P n f.type a b' with
       | none=>simp [h1] at he
       | some r =>
        cases h2:eqF E.P n fs xs ys with
        | none=>simp [h1,h2] at he
        | some r2 =>
         simp [h1,h2] at he
         have hpart:∀ {xs:List (AV A)} {us:Array Value} {a:AV A},RAVs E.T w av S.look γ xs us.toList→ybUy E.P f.type xs f.offset = some a →
           ∃ u,(part f.type us f.offset).run E.P w = .ok u w∧RAV E.T w av S.look γ a u:=by
          intro xs us a hx ha
          unfold ybUy at ha
          cases hq:partL E.P f.type xs f.offset with
          | none=>simp [hq] at ha
          | some p =>
           simp [hq] at ha
           obtain ⟨u,hu',hm⟩:=ypby (w:=w) hq (by have:=hx.len;simpa using this) (RAV E.T w av S.look γ) (fun j x hj=>by obtain ⟨u,hu,hr⟩:=hx.at j x hj;exact ⟨u,by simpa using hu,hr⟩)
           refine ⟨u,hu',?_⟩
           obtain ⟨l,bb⟩:=p
           cases bb with
           | true =>
            obtain ⟨vs,rfl,hl,hx⟩:=hm
            subst ha
            simp only [packL,RAV]
            exact ⟨vs,rfl,RAVs.of_cells (by simpa using hl) (fun j x hj=>by simpa using hx j x hj)⟩
           | false =>
            obtain ⟨x,hl,hx⟩:=hm
            simp only at hl
            subst hl ha
            simpa [packL] using hx
         obtain ⟨u,hu,hru⟩:=hpart hx ha
         obtain ⟨v,hv,hrv⟩:=hpart hy hb
         have e1:=ih.1 f.type a b' u v r d (by omega) hru hrv h1
         have e2:=ih.2 fs xs ys us vs r2 d (by omega) hx hy h2
         simp only [Op.eqFields,ne_eq,hname,not_false_eq_true,if_true,Sem.run_bind,hu,hv,e1,Result.andThen_ok]
         subst he
         cases r
         ·simp
         ·simpa using e2
theorem yDCy (E:Env A) (h:Rel E.T w0 F0 X γ φ av w tmps S) {t:TypeId} {xo yo:Operand} {x y:AV A} {u v:Value} {b:Bool} (hx:RAV E.T w av S.look γ x u) (hy:RAV E.T w av S.look γ y v) (he:eqAV E.P t xo yo x y = some b) :
  ((eqGuard .eql t xo yo u v).run E.P w = .ok () w∧(binOp .eql t u v).run E.P w = .ok (.bool b) w)∧((eqGuard .neq t xo yo u v).run E.P w = .ok () w∧(binOp .neq t u v).run E.P w = .ok (.bool (!b)) w):=by
 unfold eqAV at he
 split at he
 ·rename_i ms hu
  have hm:E.P.underlying t = some (.interface (E.P.methodsAt t)):=by simp [Program.methodsAt,hu]
  split at he
  ·rename_i hc
   simp only [Option.some.injEq] at he
   simp only [RAV,DR.nilif] at hx hy
   subst hx hy he
   have hg:∀ op,(eqGuard op t xo yo .nilIface .nilIface).run E.P w = .ok () w:=by
    intro op
    unfold eqGuard
    cases xo <;> cases yo <;> simp_all [yoZy]
   exact ⟨⟨hg _,run_eql_nil_nil w t hm⟩,⟨hg _,run_neq_nil_nil w t hm⟩⟩
  ·cases he
 ·rename_i ms hu
  have hm:E.P.underlying t = some (.interface (E.P.methodsAt t)):=by simp [Program.methodsAt,hu]
  simp only [Option.some.injEq] at he
  simp only [RAV,DR.nilif,DR.anyif] at hx hy
  obtain ⟨tx,x',rfl⟩:=hx
  subst hy he
  exact ⟨⟨rfl,run_eql_held_nil w t tx x' hm⟩,⟨rfl,run_neq_held_nil w t tx x' hm⟩⟩
 ·rename_i hu
  simp only [Option.some.injEq] at he
  simp only [RAV,DR.bool] at hx hy
  subst hx hy he
  refine ⟨⟨rfl,?_⟩,⟨rfl,?_⟩⟩
  ·simp only [binOp]
   simp [Op.equal,Op.maxDepth,run_equalIn_bool' w 9999 t _ _ hu]
  ·simp only [binOp]
   simp [Op.equal,Op.maxDepth,run_equalIn_bool' w 9999 t _ _ hu]
 ·rename_i fs xs ys hu
  split at he
  ·cases he
  ·rename_i hm
   have hr:=(ysqy E h 64).1 t _ _ u v b 10000 (by omega) hx hy he
   simp only [RAV] at hx hy
   obtain ⟨us,rfl,_⟩:=hx
   obtain ⟨vs,rfl,_⟩:=hy
   have hm':E.P.eqGuardType E.P.depth t = false:=by simpa using hm
   exact ⟨⟨run_eqGuard_agg w .eql t xo yo us vs hm',by rw [run_eql_struct,hr];rfl⟩,⟨run_eqGuard_agg w .neq t xo yo us vs hm',by rw [run_neq_struct,hr];rfl⟩⟩
 ·cases he
theorem yCWy (E:Env A) (h:Rel E.T w0 F0 X γ φ av w tmps S) {o:Oper} {op:BinOp} {t t':TypeId} {x y:Operand} {ds:List Deferred} (ho:o.op = .binOp op t x y t')
  (hk:opK E S.look (yafy S.fr) k o = some res):Did E.T w0 F0 X tmps S k res ((execOp (Act.eval ⟨tmps,ds⟩) o).run E.P w):=by
 have hx:=h.eval ds x
 have hy:=h.eval ds y
 unfold opK at hk
 simp only [ho] at hk
 unfold execOp
 simp only [ho]
 generalize yafy S.fr x = vx at hk hx
 generalize Act.eval ⟨tmps,ds⟩ x = ux at hx
 generalize yafy S.fr y = vy at hk hy
 generalize Act.eval ⟨tmps,ds⟩ y = uy at hy
 have main:∀ (u:Value) (v:AV A),(eqGuard op t x y ux uy).run E.P w = .ok () w→(binOp op t ux uy).run E.P w = .ok u w→k v [] [] = some res→RAV E.T w av S.look γ v u →
   Did E.T w0 F0 X tmps S k res ((do let a ← (do eqGuard op t x y ux uy;binOp op t ux uy);pure (Next.value a):Sem Next).run E.P w):=by
  intro u v h1 h2 h3 h4
  exact yaty (u:=u) h h3 (by simp [h1,h2]) h4
 split at hk
 ·rename_i ka a kb b
  simp only [RAV,DR.int] at hx hy
  subst hx hy
  split at hk
  ·rename_i hkk
   subst hkk
   cases hb:b == 0 with
   | true=>simp [hb] at hk
   | false =>
    rw [hb] at hk
    simp only [cond_false] at hk
    have hb':b≠0:=by simpa using hb
    exact main (.int ka (ka.wrap (a.tdiv b))) _ rfl (by rw [binOp_quo];simp [Op.intDiv,hb']) hk (by simp [RAV,DR.int])
  ·cases hk
 ·rename_i ka a kb b
  simp only [RAV,DR.int] at hx hy
  subst hx hy
  split at hk
  ·rename_i hkk
   subst hkk
   cases hb:b == 0 with
   | true=>simp [hb] at hk
   | false =>
    rw [hb] at hk
    simp only [cond_false] at hk
    have hb':b≠0:=by simpa using hb
    exact main (.int ka (a.tmod b)) _ rfl (by rw [binOp_rem];simp [Op.intDiv,hb']) hk (by simp [RAV,DR.int])
  ·cases hk
 ·rename_i ka a kb b
  simp only [RAV,DR.int] at hx hy
  subst hx hy
  cases hb:decide (0≤b)&&decide (b≤(ka.bits:Int)) with
  | false=>rw [hb] at hk;cases hk
  | true =>
   rw [hb] at hk
   simp only [cond_true] at hk
   simp only [Bool.and_eq_true,decide_eq_true_eq] at hb
   refine main (.int ka (a.fdiv (2 ^ b.toNat))) _ rfl ?_ hk (by simp [RAV,DR.int])
   have hn:¬ b < 0:=by omega
   have hm:min b.toNat ka.bits = b.toNat:=by omega
   simp [binOp,Op.shift,hn,hm]
 ·rename_i a b
  simp only [RAV,DR.str] at hx hy
  subst hx hy
  cases hb:decide (a.length + b.length≤9223372036854775807) with
  | false=>simp only [strOk,hb,cond_false] at hk;cases hk
  | true =>
   rw [strOk,hb] at hk
   simp only [cond_true] at hk
   have hb':=of_decide_eq_true hb
   refine main (.string ⟨⟨a++b⟩⟩) _ rfl ?_ hk (by simp [RAV,DR.str])
   have hsz:¬ (((⟨⟨a⟩⟩:ByteArray).size + (⟨⟨b⟩⟩:ByteArray).size:Nat):Int) > IntKind.i64.max:=by
    show ¬ (((a.length + b.length:Nat):Int) > 9223372036854775807)
    omega
   simp only [binOp,Op.stringOp]
   rw [if_neg hsz]
   rfl
 ·rename_i h1 h2 h3 h4
  cases hbv:binAV op vx vy with
  | some v =>
   rw [hbv] at hk
   simp only at hk
   unfold binAV at hbv
   split at hbv
   ·rename_i ka a kb b
    simp only [RAV,DR.int] at hx hy
    subst hx hy
    split at hbv
    ·cases hbv
    ·rename_i hkk
     have hkk:ka = kb:=by simpa using hkk
     subst hkk
     split at hbv <;> (try simp only [Option.some.injEq] at hbv) <;> (try (subst hbv)) <;> (try (cases hbv;done))
     ·exact main _ _ rfl (by simp [binOp,Op.intArith];rfl) hk (by simp [RAV,DR.int])
     ·exact main _ _ rfl (by simp [binOp,Op.intArith];rfl) hk (by simp [RAV,DR.int])
     ·exact main _ _ rfl (by simp [binOp,Op.intArith];rfl) hk (by simp [RAV,DR.int])
     all_goals exact main _ _ rfl (by simp [binOp,Op.intCmp];rfl) hk (by simp [RAV,DR.bool])
   ·rename_i a b
    simp only [RAV,DR.str] at hx hy
    subst hx hy
    have e1:(⟨⟨a⟩⟩:ByteArray).toList = a:=yhky a
    have e2:(⟨⟨b⟩⟩:ByteArray).toList = b:=yhky b
    split at hbv <;> (try simp only [Option.some.injEq] at hbv) <;> (try (subst hbv)) <;> (try (cases hbv;done))
    all_goals exact main _ _ rfl (by simp only [binOp,Op.stringOp,e1,e2];rfl) hk (by simp [RAV,DR.bool])
   ·cases hbv
  | none =>
   rw [hbv] at hk
   simp only at hk
   cases he:eqAV E.P t x y vx vy with
   | none=>rw [he] at hk;cases op <;> cases hk
   | some b =>
    obtain ⟨⟨e1,e2⟩,e3,e4⟩:=yDCy E h hx hy he
    rw [he] at hk
    cases op <;> (try simp only at hk) <;> try (cases hk;done)
    ·exact main _ _ e1 e2 hk (by simp [RAV,DR.bool])
    ·exact main _ _ e3 e4 hk (by simp [RAV,DR.bool])
end Go.Am
set_option linter.unusedVariables false
set_option linter.unusedSimpArgs false
namespace Go.Am
open Go
variable {A:Nat→Type}
variable {T:Ty A} {w0 w w':World} {F0:List Nat} {X:Nat→Prop} {γ γ':Nat→Value} {φ φ':Nat→List Nat} {av av':Nat→Prop} {tmps:Array Value} {S S':St A} {R:Type} {P:Program}
variable {k:AV A→Upd A→List Nat→Option R} {res:R}
theorem yuNy (s:List UInt8):(⟨⟨s⟩⟩:ByteArray).size = s.length:=rfl
theorem yGgy (s:List UInt8) (i:Nat):(⟨⟨s⟩⟩:ByteArray)[i]? = s[i]?:=by
 show (if h:i < (⟨⟨s⟩⟩:ByteArray).size then some ((⟨⟨s⟩⟩:ByteArray)[i]) else none) = s[i]?
 split
 ·rename_i h
  have h':i < s.length:=h
  rw [List.getElem?_eq_getElem h']
  rfl
 ·rename_i h
  have h':¬ i < s.length:=h
  rw [List.getElem?_eq_none (Nat.le_of_not_lt h')]
theorem yEuy (E:Env A) (h:Rel E.T w0 F0 X γ φ av w tmps S) {o:Oper} {t:TypeId} {x i:Operand} {ds:List Deferred} (ho:o.op = .index t x i)
  (hk:opK E S.look (yafy S.fr) k o = some res):Did E.T w0 F0 X tmps S k res ((execOp (Act.eval ⟨tmps,ds⟩) o).run E.P w):=by
 have hx:=h.eval ds x
 have hi:=h.eval ds i
 unfold opK at hk
 simp only [ho] at hk
 unfold execOp
 simp only [ho]
 generalize yafy S.fr x = vx at hk hx
 generalize Act.eval ⟨tmps,ds⟩ x = ux at hx
 generalize yafy S.fr i = vi at hk hi
 generalize Act.eval ⟨tmps,ds⟩ i = ui at hi
 split at hk
 ·rename_i s ki n hu
  simp only [RAV,DR.str,DR.int] at hx hi
  subst hx hi
  cases hb:decide (0≤n) with
  | false=>simp [hb] at hk
  | true =>
   rw [hb] at hk
   simp only [cond_true] at hk
   have h0:=of_decide_eq_true hb
   cases hc:s[n.toNat]? with
   | none=>simp [hc] at hk
   | some b =>
    simp only [hc] at hk
    refine yaty (u:=.int .u8 b.toNat) h hk ?_ (by simp [RAV,DR.int])
    simp [Instr.index,asIntOf,run_underlying hu,h0,yGgy,hc]
 ·cases hk
theorem yAUy (E:Env A) (h:Rel E.T w0 F0 X γ φ av w tmps S) {x:AV A} {u:Value} (hx:RAV E.T w av S.look γ x u) {n:Nat} {ts:List Nat} (hl:lenAV S.look x = some (n,ts)) :
  (∃ s,x = .d (.str s)∧u = .string ⟨⟨s⟩⟩∧n = s.length) ∨ (∃ a cap,u = .slice a n cap∧∀ t,x≠.mp t) ∨ (∃ t b es clock,x = .mp t∧u = .map (some b)∧w.heap[b]? = some (.map es clock)∧es.size = n):=by
 cases x <;> simp only [lenAV] at hl <;> try (cases hl;done)
 case mp t =>
  right;right
  cases hk:S.look t with
  | none=>simp [hk] at hl
  | some ob =>
   rw [hk] at hl
   simp only [RAV] at hx
   obtain ⟨hv,hx2⟩:=hx ob hk
   have hob:=h.ob t ob hk
   clear hx2
   cases ob <;> simp only at hl <;> try (cases hl;done)
   simp only [Option.some.injEq,Prod.mk.injEq] at hl
   obtain ⟨rfl,rfl⟩:=hl
   simp only [ROb,RIV] at hob
   obtain ⟨b,es,clock,hg,_,hb,hm⟩:=hob
   refine ⟨t,b,es,clock,rfl,by rw [hv,hg],hb,?_⟩
   have:=hm.1.len
   simpa using this
 case d dx =>
  cases dx <;> simp only at hl <;> try (cases hl;done)
  ·simp only [Option.some.injEq,Prod.mk.injEq] at hl
   obtain ⟨rfl,rfl⟩:=hl
   simp only [RAV,DR.str] at hx
   exact .inl ⟨_,rfl,hx,rfl⟩
  ·simp only [Option.some.injEq,Prod.mk.injEq] at hl
   obtain ⟨rfl,rfl⟩:=hl
   simp only [RAV] at hx
   obtain ⟨a,cap,rfl,_⟩:=hx.sl
   exact .inr (.inl ⟨a,cap,rfl,by intro t h;cases h⟩)
  ·simp only [Option.some.injEq,Prod.mk.injEq] at hl
   obtain ⟨rfl,rfl⟩:=hl
   simp only [RAV,DR.nsl] at hx
   exact .inr (.inl ⟨none,0,hx,by intro t h;cases h⟩)
 case own e t =>
  cases hk:S.look t with
  | none=>simp [hk] at hl
  | some ob =>
   rw [hk] at hl
   simp only [RAV] at hx
   obtain ⟨hv,hx2⟩:=hx ob hk
   have hob:=h.ob t ob hk
   clear hx2
   cases ob <;> simp only at hl <;> try (cases hl;done)
   ·simp only [Option.some.injEq,Prod.mk.injEq] at hl
    obtain ⟨rfl,rfl⟩:=hl
    simp only [ROb,RIV] at hob
    obtain ⟨ob,_,hs,_⟩:=hob
    cases ob with
    | none=>simp only [OwnSl] at hs;exact .inr (.inl ⟨none,0,by rw [hv,hs.2,hs.1],by intro t h;cases h⟩)
    | some b=>simp only [OwnSl] at hs;obtain ⟨cap,c,ty,hv',_⟩:=hs;exact .inr (.inl ⟨_,cap,by rw [hv,hv'],by intro t h;cases h⟩)
   ·simp only [Option.some.injEq,Prod.mk.injEq] at hl
    obtain ⟨rfl,rfl⟩:=hl
    simp only [ROb] at hob
    obtain ⟨a,cap,hv',_⟩:=hob.2.1.sl
    exact .inr (.inl ⟨a,cap,by rw [hv,hv'],by intro t h;cases h⟩)
 case vw e t lo hi =>
  split at hl
  ·rename_i hs
   simp only [Option.some.injEq,Prod.mk.injEq] at hl
   obtain ⟨rfl,rfl⟩:=hl
   obtain ⟨o,ho⟩:=Option.isSome_iff_exists.1 hs
   simp only [RAV] at hx
   obtain ⟨⟨b,n',cap,pa,cap',hg,rfl,_⟩,_⟩:=hx o ho
   exact .inr (.inl ⟨pa,cap',rfl,by intro t h;cases h⟩)
  ·cases hl
theorem yJfy (E:Env A) (h:Rel E.T w0 F0 X γ φ av w tmps S) {x:AV A} {u:Value} (hx:RAV E.T w av S.look γ x u) {n:Nat} {ts:List Nat} (hl:lenAV S.look x = some (n,ts)) {t ty:TypeId}
  (ht:lenT E.P t x = true):(Builtin.len_ #[t] ty #[u]).run E.P w = .ok (.int .i64 n) w:=by
 unfold lenT at ht
 cases hu:E.P.underlying t with
 | none=>simp [hu] at ht
 | some d =>
  rw [hu] at ht
  rcases yAUy E h hx hl with ⟨s,rfl,rfl,rfl⟩ | ⟨a,cap,rfl,hne⟩ | ⟨t0,b,es,clock,rfl,rfl,hb,hn⟩
  ·cases d <;> (try simp only at ht) <;> try (cases ht;done)
   simp [Builtin.len_,run_underlying hu,goInt,yuNy]
  ·cases d <;> (try simp only at ht) <;> try (cases ht;done)
   ·cases x <;> (try simp only at ht) <;> try (cases ht;done)
    rename_i dx
    cases dx <;> (try simp only at ht) <;> try (cases ht;done)
    simp only [RAV,DR.str] at hx
    cases hx
   ·simp [Builtin.len_,run_underlying hu,goInt]
   ·cases x <;> (try simp only at ht) <;> try (cases ht;done)
    exact absurd rfl (hne _)
  ·cases d <;> (try simp only at ht) <;> try (cases ht;done)
   simp [Builtin.len_,run_underlying hu,goInt,MapKept.run_getObj_map hb,hn]
theorem yeFy (E:Env A) {t:TypeId} {u:Value} {lo hi:Option Value} (hu:∀ n e,E.P.underlying t≠some (.array n e)) {d:TypeDesc} (hd:E.P.underlying t = some d) :
  (Instr.sliceAt t u lo hi none).run E.P w = (Instr.slice t u lo hi none).run E.P w:=by
 unfold Instr.sliceAt
 simp only [Sem.run_bind,run_underlying hd,Result.andThen_ok]
 cases d <;> first | rfl | exact absurd hd (hu _ _)
def loN:Option Int→Nat
 | some l=>l.toNat
 | none=>0
def hiN:Option Int→Nat→Nat
 | some h,_=>h.toNat
 | none,n=>n
theorem yhpy (sl:Bool) (len cap:Nat) (lo hi:Option Int) (k1 k2:IntKind) (h0:∀ l,lo = some l→0≤l) (h1:∀ l,lo = some l→∀ h,hi = some h→l≤h) (h2:∀ l,lo = some l→hi = none→l≤len) (h3:∀ h,hi = some h→0≤h∧h≤cap) :
  (Instr.sliceBounds sl len cap (lo.map (.int k1)) (hi.map (.int k2)) none).run P w =
   .ok (loN lo,hiN hi len,cap) w:=by
 unfold Instr.sliceBounds loN hiN
 cases hi with
 | none =>
  cases lo with
  | none=>simp
  | some l =>
   have:=h0 l rfl
   have:=h2 l rfl rfl
   simp [Instr.sliceBound,asIntOf, *]
 | some hh =>
  obtain ⟨ha,hb⟩:=h3 hh rfl
  cases lo with
  | none=>simp [Instr.sliceBound,asIntOf,ha,hb]
  | some l =>
   have h5:=h0 l rfl
   have h6:=h1 l rfl hh rfl
   have h7:l≤(hh.toNat:Int):=by omega
   have h8:max hh 0 = hh:=by omega
   simp [Instr.sliceBound,asIntOf,ha,hb,h5,h6,h8]
theorem ywwy (s:List UInt8) (l h:Nat):(⟨⟨s⟩⟩:ByteArray).extract l h = ⟨⟨(s.take h).drop l⟩⟩:=by
 have e:((⟨⟨s⟩⟩:ByteArray).extract l h).data = (⟨(s.take h).drop l⟩:Array UInt8):=by
  rw [ByteArray.data_extract]
  apply Array.ext'
  simp only [Array.toList_extract,List.extract_eq_take_drop,List.drop_take]
 generalize (⟨⟨s⟩⟩:ByteArray).extract l h = b at e
 cases b
 simp only at e
 rw [e]
theorem yeIy (E:Env A) {t:TypeId} (hu:E.P.underlying t = some .string) (s:List UInt8) (lo hi:Option Int) (k1 k2:IntKind) (h0:∀ l,lo = some l→0≤l) (h1:∀ l,lo = some l→∀ h,hi = some h→l≤h) (h2:∀ l,lo = some l→hi = none→l≤s.length) (h3:∀ h,hi = some h→0≤h∧h≤s.length) :
  (Instr.sliceAt t (.string ⟨⟨s⟩⟩) (lo.map (.int k1)) (hi.map (.int k2)) none).run E.P w =
   .ok (.string ⟨⟨(s.take (hiN hi s.length)).drop (loN lo)⟩⟩) w:=by
 rw [yeFy E (fun n e=>by rw [hu];simp) hu]
 have hb:=yhpy (P:=E.P) (w:=w) false s.length s.length lo hi k1 k2 h0 h1 h2 h3
 unfold Instr.slice
 simp only [Sem.run_bind,run_underlying hu,Result.andThen_ok,Option.isSome_none,Bool.false_eq_true,if_false,yuNy]
 simp only [hb,Sem.run_pure,Result.andThen_ok,ywwy]
theorem yimy (E:Env A) (hok:TyOk E.P E.T) {t:TypeId} {e:Nat} (hu:E.P.underlying t = some (.slice e)) (hse:E.T.size e = E.P.cellsOf e) {s:List (A e)} {v:Value} (hv:DR E.T w av (.sl e s) v)
  (lo hi:Option Int) (k1 k2:IntKind) (h0:∀ l,lo = some l→0≤l) (h1:∀ l,lo = some l→∀ h,hi = some h→l≤h) (h2:∀ l,lo = some l→hi = none→l≤s.length) (h3:∀ h,hi = some h→0≤h∧h≤s.length) :
  ∃ u,(Instr.sliceAt t v (lo.map (.int k1)) (hi.map (.int k2)) none).run E.P w = .ok u w ∧
   DR E.T w av (.sl e ((s.take (hiN hi s.length)).drop (loN lo))) u:=by
 obtain ⟨a,cap,rfl,hcap,hrow⟩:=hv.sl
 have hpa:=hv.sl_plain
 rw [yeFy E (fun n e=>by rw [hu];simp) hu]
 have hb:=yhpy (P:=E.P) (w:=w) true s.length cap lo hi k1 k2 h0 h1 h2 (fun h hh=>by obtain ⟨x,y⟩:=h3 h hh;exact ⟨x,by omega⟩)
 obtain ⟨ie,hie⟩:∃ ie,E.P.info? e = some ie:=by
  cases hi:E.P.info? e with
  | none=>have:=hok.size e;rw [hse] at this;simp [Program.cellsOf,hi] at this
  | some i=>exact ⟨i,rfl⟩
 have hsz:ie.size = E.T.size e:=by rw [hse];simp [Program.cellsOf,hie]
 generalize hl:(loN lo) = l at hb ⊢
 generalize hh:(hiN hi s.length) = h at hb ⊢
 have hhs:h≤s.length:=by
  cases hi with
  | none=>simp [hiN] at hh;omega
  | some x=>simp [hiN] at hh;have:=h3 x rfl;omega
 have hlh:l≤h:=by
  cases lo with
  | none=>simp [loN] at hl;omega
  | some x =>
   simp [loN] at hl
   cases hi with
   | none=>simp [hiN] at hh;have:=h2 x rfl rfl;have:=h0 x rfl;omega
   | some y=>simp [hiN] at hh;have:=h1 x rfl y rfl;have:=h0 x rfl;omega
 refine ⟨.slice (if cap = l then a else a.map (·.add (l * ie.size))) (h - l) (cap - l),?_,?_⟩
 ·unfold Instr.slice
  simp only [Sem.run_bind,run_underlying hu,Result.andThen_ok]
  simp only [hb,Sem.run_pure,Result.andThen_ok,ya7y hie]
 ·have hlen:((s.take h).drop l).length = h - l:=by simp;omega
  rw [← hlen]
  refine DR.of_row (by
   split
   ·exact hpa
   ·rcases hpa with rfl | ⟨b,o,rfl⟩
    ·exact .inl rfl
    ·exact .inr ⟨b,o + l * ie.size,by simp [addr_add]⟩) (by rw [hlen];omega) (fun hne=>?_)
  have hsn:s≠[]:=by rintro rfl;simp at hne
  obtain ⟨b,o,c,ty,fz,rfl,hav,hc,hr⟩:=hrow hsn
  have hlt:l < h:=by
   rcases Nat.lt_or_ge l h with h' | h'
   ·exact h'
   ·exact absurd (List.eq_nil_of_length_eq_zero (by rw [hlen];omega)) hne
  rw [if_neg (by omega)]
  refine ⟨b,o + l * ie.size,c,ty,fz,by simp [addr_add],hav,hc,fun i x hx j d hj=>?_⟩
  rw [List.getElem?_drop,List.getElem?_take] at hx
  split at hx
  ·obtain ⟨u,hu,hd⟩:=hr (l + i) x hx j d hj
   refine ⟨u,?_,hd⟩
   rw [← hu,hsz]
   congr 1
   rw [Nat.add_mul]
   omega
  ·cases hx
theorem yduy {x:Option (AV A)} {u:Option Value} (hx:∀ v,x = some v→∃ u',u = some u'∧RAV T w av S.look γ v u') (hn:x = none→u = none) {k0:IntKind} {l:Int} (h:x = some (.d (.int k0 l))):u = some (.int k0 l):=by
 obtain ⟨u',rfl,hu⟩:=hx _ h
 simp only [RAV,DR.int] at hu
 rw [hu]
theorem yhYy (E:Env A) (hok:TyOk E.P E.T) {t:TypeId} {x:AV A} {u:Value} (hx:RAV E.T w av S.look γ x u) (hs:ydty E.P E.T t x = true) {lo hi:Option (AV A)} {ul uh:Option Value}
  (hl:∀ v,lo = some v→∃ u',ul = some u'∧RAV E.T w av S.look γ v u') (hl0:lo = none→ul = none) (hh:∀ v,hi = some v→∃ u',uh = some u'∧RAV E.T w av S.look γ v u') (hh0:hi = none→uh = none)
  (hk:yepy k x lo hi = some res):∃ u' v,(Instr.sliceAt t u ul uh none).run E.P w = .ok u' w∧RAV E.T w av S.look γ v u'∧k v [] [] = some res:=by
 have str:∀ (s:List UInt8),x = .d (.str s)→E.P.underlying t = some .string∧u = .string ⟨⟨s⟩⟩:=by
  rintro s rfl
  simp only [RAV,DR.str] at hx
  refine ⟨?_,hx⟩
  unfold ydty at hs
  split at hs
  ·assumption
  ·rename_i h;cases h
  ·cases hs
 have sli:∀ (e:Nat) (s:List (A e)),x = .d (.sl e s)→E.P.underlying t = some (.slice e)∧E.T.size e = E.P.cellsOf e∧DR E.T w av (.sl e s) u:=by
  rintro e s rfl
  simp only [RAV] at hx
  unfold ydty at hs
  split at hs
  ·rename_i h;cases h
  ·rename_i e1 e2 xs hu h
   cases h
   simp only [Bool.and_eq_true,beq_iff_eq] at hs
   obtain ⟨rfl,h2⟩:=hs
   exact ⟨hu,h2,hx⟩
  ·cases hs
 unfold yepy at hk
 split at hk
 ·rename_i s
  obtain ⟨hu,rfl⟩:=str s rfl
  have:=yeIy (w:=w) E hu s none none .i64 .i64 (by simp) (by simp) (by simp) (by simp)
  rw [hl0 rfl,hh0 rfl]
  refine ⟨_,_,this,?_,hk⟩
  simp [RAV,DR.str,loN,hiN]
 ·rename_i s kl l
  obtain ⟨hu,rfl⟩:=str s rfl
  cases hb:(decide (0≤l)&&decide (l≤s.length)) with
  | false=>simp [hb] at hk
  | true =>
   rw [hb] at hk
   simp only [cond_true] at hk
   simp only [Bool.and_eq_true,decide_eq_true_eq] at hb
   have:=yeIy (w:=w) E hu s (some l) none kl .i64 (by simp;omega) (by simp) (by simp;omega) (by simp)
   rw [yduy hl hl0 rfl,hh0 rfl]
   refine ⟨_,_,this,?_,hk⟩
   simp [RAV,DR.str,loN,hiN]
 ·rename_i s kh hv
  obtain ⟨hu,rfl⟩:=str s rfl
  cases hb:(decide (0≤hv)&&decide (hv≤s.length)) with
  | false=>simp [hb] at hk
  | true =>
   rw [hb] at hk
   simp only [cond_true] at hk
   simp only [Bool.and_eq_true,decide_eq_true_eq] at hb
   have:=yeIy (w:=w) E hu s none (some hv) .i64 kh (by simp) (by simp) (by simp) (by simp;omega)
   rw [yduy hh hh0 rfl,hl0 rfl]
   refine ⟨_,_,this,?_,hk⟩
   simp [RAV,DR.str,loN,hiN]
 ·rename_i s kl l kh hv
  obtain ⟨hu,rfl⟩:=str s rfl
  cases hb:(decide (0≤l)&&(decide (l≤hv)&&decide (hv≤s.length))) with
  | false=>simp [hb] at hk
  | true =>
   rw [hb] at hk
   simp only [cond_true] at hk
   simp only [Bool.and_eq_true,decide_eq_true_eq] at hb
   have:=yeIy (w:=w) E hu s (some l) (some hv) kl kh (by simp;omega) (by simp;omega) (by simp) (by simp;omega)
   rw [yduy hh hh0 rfl,yduy hl hl0 rfl]
   refine ⟨_,_,this,?_,hk⟩
   simp [RAV,DR.str,loN,hiN]
 ·rename_i e s kl l
  obtain ⟨hu,hse,hd⟩:=sli e s rfl
  cases hb:(decide (0≤l)&&decide (l≤s.length)) with
  | false=>simp [hb] at hk
  | true =>
   rw [hb] at hk
   simp only [cond_true] at hk
   simp only [Bool.and_eq_true,decide_eq_true_eq] at hb
   obtain ⟨u',hr,hd'⟩:=yimy E hok hu hse hd (some l) none kl .i64 (by simp;omega) (by simp) (by simp;omega) (by simp)
   rw [yduy hl hl0 rfl,hh0 rfl]
   refine ⟨_,_,hr,?_,hk⟩
   simpa [RAV,loN,hiN] using hd'
 ·rename_i e s kh hv
  obtain ⟨hu,hse,hd⟩:=sli e s rfl
  cases hb:(decide (0≤hv)&&decide (hv≤s.length)) with
  | false=>simp [hb] at hk
  | true =>
   rw [hb] at hk
   simp only [cond_true] at hk
   simp only [Bool.and_eq_true,decide_eq_true_eq] at hb
   obtain ⟨u',hr,hd'⟩:=yimy E hok hu hse hd none (some hv) .i64 kh (by simp) (by simp) (by simp) (by simp;omega)
   rw [yduy hh hh0 rfl,hl0 rfl]
   refine ⟨_,_,hr,?_,hk⟩
   simpa [RAV,loN,hiN] using hd'
 ·rename_i e s kl l kh hv
  obtain ⟨hu,hse,hd⟩:=sli e s rfl
  cases hb:(decide (0≤l)&&(decide (l≤hv)&&decide (hv≤s.length))) with
  | false=>simp [hb] at hk
  | true =>
   rw [hb] at hk
   simp only [cond_true] at hk
   simp only [Bool.and_eq_true,decide_eq_true_eq] at hb
   obtain ⟨u',hr,hd'⟩:=yimy E hok hu hse hd (some l) (some hv) kl kh (by simp;omega) (by simp;omega) (by simp) (by simp;omega)
   rw [yduy hh hh0 rfl,yduy hl hl0 rfl]
   refine ⟨_,_,hr,?_,hk⟩
   simpa [RAV,loN,hiN] using hd'
 ·cases hk
theorem yCZy (E:Env A) (hok:TyOk E.P E.T) (h:Rel E.T w0 F0 X γ φ av w tmps S) {o:Oper} {t:TypeId} {x:Operand} {lo hi mx:Option Operand} {ds:List Deferred} (ho:o.op = .slice t x lo hi mx)
  (hk:opK E S.look (yafy S.fr) k o = some res) (hf:∀ v u ts,k v u ts = some res→yazy S u = true):Did E.T w0 F0 X tmps S k res ((execOp (Act.eval ⟨tmps,ds⟩) o).run E.P w):=by
 have hx:=h.eval ds x
 unfold opK at hk
 simp only [ho] at hk
 unfold execOp
 simp only [ho]
 cases mx with
 | some m=>simp at hk
 | none =>
  have hb:∀ {S':St A} {av':Nat→Prop},(∀ (y:Operand),RAV E.T w av' S'.look γ (yafy S.fr y) (Act.eval ⟨tmps,ds⟩ y))→∀ (y:Option Operand),(∀ v,y.map (yafy S.fr) = some v→∃ u',y.map (Act.eval ⟨tmps,ds⟩) = some u'∧RAV E.T w av' S'.look γ v u')∧(y.map (yafy S.fr) = none→y.map (Act.eval ⟨tmps,ds⟩) = none):=by
   intro S' av' hev y
   cases y with
   | none=>exact ⟨fun v hv=>by simp at hv,fun _=>rfl⟩
   | some y=>exact ⟨fun v hv=>by simp at hv;subst hv;exact ⟨_,rfl,hev y⟩,fun hn=>by simp at hn⟩
  have base:=fun y=>hb (S':=S) (fun y=>h.eval ds y) y
  split at hk
  ·rename_i e tg he heq
   have hex:yafy S.fr x = .own e tg:=heq
   rw [hex] at hx
   simp only [RAV] at hx
   split at hk
   ·-- taken over
    rename_i t2 htg
    split at hk
    ·rename_i e' xs kh hv hl hlo hhi
     split at hk
     ·rename_i hc
      obtain ⟨rfl,hso,ht2⟩:=hc
      cases hb:(decide (0≤hv)&&decide (hv≤xs.length)) with
      | false=>simp [hb] at hk
      | true =>
       rw [hb] at hk
       simp only [cond_true] at hk
       simp only [Bool.and_eq_true,decide_eq_true_eq] at hb
       have hno:S.look t2 = none:=by simpa using ht2
       have hne:t2≠tg:=by rintro rfl;rw [hl] at hno;cases hno
       obtain ⟨hlt,hocc⟩:=ycJy (o:=.row e' (xs.take hv.toNat)) (hf _ _ _ hk) (by simp) hno
       obtain ⟨hu,hse⟩:E.P.underlying t = some (.slice e')∧E.T.size e' = E.P.cellsOf e':=by
        unfold ydty at hso
        split at hso
        ·rename_i h;cases h
        ·rename_i e1 e2 xs' hu h
         cases h
         simp only [Bool.and_eq_true,beq_iff_eq] at hso
         obtain ⟨rfl,h2⟩:=hso
         exact ⟨hu,h2⟩
        ·cases hso
       obtain ⟨ie,hie⟩:∃ ie,E.P.info? e' = some ie:=by
        cases hi:E.P.info? e' with
        | none=>have:=hok.size e';rw [hse] at this;simp [Program.cellsOf,hi] at this
        | some i=>exact ⟨i,rfl⟩
       rw [yduy (base hi).1 (base hi).2 hhi,(base lo).2 hlo]
       have hob:=h.ob tg _ hl
       have hval:=(hx _ hl).1
       simp only [ROb,RIV] at hob
       obtain ⟨ob,hφ,hs,hrow⟩:=hob
       obtain ⟨a,cap,hg,hle⟩:∃ a cap,γ tg = .slice a xs.length cap∧xs.length≤cap:=by
        cases ob with
        | none=>simp only [OwnSl] at hs;exact ⟨none,0,by rw [hs.2,hs.1],by omega⟩
        | some b=>simp only [OwnSl] at hs;obtain ⟨cap,c,ty,hv,hle,_⟩:=hs;exact ⟨_,cap,hv,hle⟩
       have hbd:=yhpy (P:=E.P) (w:=w) true xs.length cap none (some hv) .i64 kh (by simp) (by simp) (by simp) (by intro z hz;cases hz;omega)
       have hrun:(Instr.sliceAt t (γ tg) none (some (.int kh hv)) none).run E.P w = .ok (.slice a hv.toNat cap) w:=by
        rw [yeFy E (fun n e=>by rw [hu];simp) hu,hg]
        unfold Instr.slice
        simp only [Sem.run_bind,run_underlying hu,Result.andThen_ok]
        simp only [Option.map_none,Option.map_some] at hbd
        simp only [hbd,Sem.run_pure,Result.andThen_ok,ya7y hie,loN,hiN,Nat.sub_zero]
        split
        ·rfl
        ·cases a <;> simp [addr_add,Addr.add]
       obtain ⟨γ',φ',a1,a2,a3,a4,a5⟩:=h.turn (w':=w) (t:=t2) hl hlt (fun _=>⟨hno,hocc⟩) (.row e' (xs.take hv.toNat)) (.slice a hv.toNat cap) (fun he=>absurd he hne) (fun _ _=>rfl) rfl rfl ⟨rfl,fun _=>Nat.le_refl _⟩ rfl
        (fun γ' φ' hp hγ hφ' _ _=>by
         simp only [ROb,RIV]
         have htl:(xs.take hv.toNat).length = hv.toNat:=by rw [List.length_take];omega
         refine ⟨ob,by rw [hφ',hφ],?_,fun b hb=>?_⟩
         ·cases ob with
          | none =>
           simp only [OwnSl] at hs ⊢
           rw [hγ,htl]
           rw [hs.2] at hg
           simp only [Value.slice.injEq] at hg
           refine ⟨by omega,?_⟩
           rw [← hg.1,← hg.2.2]
           congr 1
           omega
          | some b =>
           simp only [OwnSl] at hs ⊢
           obtain ⟨cap',c,ty,hv',hle',hc,hsz⟩:=hs
           rw [hg] at hv'
           simp only [Value.slice.injEq] at hv'
           refine ⟨cap',c,ty,?_,by omega,hc,hsz⟩
           rw [hγ,htl,hv'.1,hv'.2.2]
         ·obtain ⟨c,ty,hc,hr⟩:=hrow b hb
          refine ⟨c,ty,hc,fun i x hx j d hj=>?_⟩
          rw [List.getElem?_take] at hx
          split at hx
          ·exact hr i x hx j d hj
          ·cases hx)
       refine ⟨.slice a hv.toNat cap,w,.inl (by rw [hval];simp [hrun]),_,_,_,γ',φ',av,hk,a1,?_⟩
       simp only [RAV]
       intro o' ho'
       have:(S.upd [(tg,none),(t2,some (.row e' (xs.take hv.toNat)))]).look t2 = some (.row e' (xs.take hv.toNat)):=by
        show St.look { S with st:=(S.st.set tg none).set t2 (some (.row e' (xs.take hv.toNat))) } t2 = _
        have h1:=yayy { S with st:=S.st.set tg none } t2 (some (.row e' (xs.take hv.toNat))) t2
        rw [h1,if_pos ⟨rfl,by simpa using hlt⟩]
       rw [this] at ho'
       cases ho'
       exact ⟨a2.symm,rfl⟩
     ·cases hk
    ·cases hk
   ·-- a view
    split at hk
    ·rename_i e' xs kl l hl hlo hhi
     split at hk
     ·rename_i hc
      obtain ⟨rfl,hso⟩:=hc
      cases hb:(decide (0 < xs.length)&&(decide (0≤l)&&decide (l≤xs.length))) with
      | false=>simp [hb] at hk
      | true =>
       rw [hb] at hk
       simp only [cond_true] at hk
       simp only [Bool.and_eq_true,decide_eq_true_eq] at hb
       obtain ⟨hu,hse⟩:E.P.underlying t = some (.slice e')∧E.T.size e' = E.P.cellsOf e':=by
        unfold ydty at hso
        split at hso
        ·rename_i h;cases h
        ·rename_i e1 e2 xs' hu h
         cases h
         simp only [Bool.and_eq_true,beq_iff_eq] at hso
         obtain ⟨rfl,h2⟩:=hso
         exact ⟨hu,h2⟩
        ·cases hso
       obtain ⟨ie,hie⟩:∃ ie,E.P.info? e' = some ie:=by
        cases hi:E.P.info? e' with
        | none=>have:=hok.size e';rw [hse] at this;simp [Program.cellsOf,hi] at this
        | some i=>exact ⟨i,rfl⟩
       have hsz:ie.size = E.T.size e':=by rw [hse];simp [Program.cellsOf,hie]
       rw [yduy (base lo).1 (base lo).2 hlo,(base hi).2 hhi]
       have hob:=h.ob tg _ hl
       have hval:=(hx _ hl).1
       simp only [ROb,RIV] at hob
       obtain ⟨ob,hφ,hs,hrow⟩:=hob
       cases ob with
       | none=>simp only [OwnSl] at hs;omega
       | some b =>
        simp only [OwnSl] at hs
        obtain ⟨cap,c,ty,hg,hle,hc',_⟩:=hs
        have hbd:=yhpy (P:=E.P) (w:=w) true xs.length cap (some l) none kl .i64 (by intro z hz;cases hz;omega) (by simp) (by intro z hz _;cases hz;omega) (by simp)
        have hrun:(Instr.sliceAt t (γ tg) (some (.int kl l)) none none).run E.P w = .ok (.slice (if cap = l.toNat then some ⟨b,0,none⟩ else some ⟨b,l.toNat * E.T.size e',none⟩) (xs.length - l.toNat) (cap - l.toNat)) w:=by
         rw [yeFy E (fun n e=>by rw [hu];simp) hu,hg]
         unfold Instr.slice
         simp only [Sem.run_bind,run_underlying hu,Result.andThen_ok]
         simp only [Option.map_none,Option.map_some] at hbd
         simp only [hbd,Sem.run_pure,Result.andThen_ok,ya7y hie,loN,hiN,hsz,Option.map_some,addr_add,Nat.zero_add]
        refine yaty h hk (by rw [hval];simp [hrun];rfl) ?_
        simp only [RAV]
        intro o' ho'
        rw [hl] at ho'
        cases ho'
        refine ⟨⟨b,_,_,(if cap = l.toNat then some ⟨b,0,none⟩ else some ⟨b,l.toNat * E.T.size e',none⟩),cap - l.toNat,hg,?_,hb.2.1,hb.2.2,fun hlt=>if_neg (by omega)⟩,rfl⟩
        have:xs.length - l.toNat = ((xs.length:Int) - l).toNat:=by omega
        rw [this]
     ·cases hk
    ·cases hk
   cases hl:S.look tg with
   | none=>simp [hl] at hk
   | some ob =>
    rw [hl] at hk
    have hv:=(hx ob hl).1
    have hob:=h.ob tg ob hl
    cases ob <;> (try simp only at hk) <;> try (cases hk;done)
    ·rename_i e' xs
     split at hk
     ·rename_i hc
      obtain ⟨φ',av',hR,hD,hsub,hnot,_⟩:=h.freeze hl
      obtain ⟨u',v,hr,hrv,hk'⟩:=yhYy (S:=S.upd [(tg,some (.frz e' xs))]) (γ:=γ) (av:=av') E hok (u:=γ tg) (by simp only [RAV];exact hD) hc.2
       (hb (S':=S.upd [(tg,some (.frz e' xs))]) (av':=av') (fun y=>hR.eval ds y) lo).1 (hb (S':=S.upd [(tg,some (.frz e' xs))]) (av':=av') (fun y=>hR.eval ds y) lo).2
       (hb (S':=S.upd [(tg,some (.frz e' xs))]) (av':=av') (fun y=>hR.eval ds y) hi).1 (hb (S':=S.upd [(tg,some (.frz e' xs))]) (av':=av') (fun y=>hR.eval ds y) hi).2 hk
      exact ⟨u',w,.inl (by rw [hv];simp [hr]),v,_,_,γ,φ',av',hk',hR,hrv⟩
     ·cases hk
    ·rename_i e' xs
     split at hk
     ·rename_i hc
      simp only [ROb] at hob
      obtain ⟨u',v,hr,hrv,hk'⟩:=yhYy (S:=S) (γ:=γ) (av:=av) E hok (u:=γ tg) (by simp only [RAV];exact hob.2.1) hc.2 (base lo).1 (base lo).2 (base hi).1 (base hi).2 hk
      exact ⟨u',w,.inl (by rw [hv];simp [hr]),v,_,_,γ,φ,av,hk',h,hrv⟩
     ·cases hk
  ·split at hk
   ·rename_i hc
    obtain ⟨u',v,hr,hrv,hk'⟩:=yhYy (S:=S) (γ:=γ) (av:=av) E hok hx hc (base lo).1 (base lo).2 (base hi).1 (base hi).2 hk
    exact yaty (u:=u') h hk' (by simp [hr]) hrv
   ·cases hk
  ·cases hk
theorem ydGy {look:Nat→Option (Ob A)}:∀ {l:List Value} {ds:List (D A)},ydUy (l.map const1) = some ds→ds.length = l.length∧∀ (j:Nat) (d:D A),ds[j]? = some d→∃ u,l[j]? = some u∧DR T w av d u
 | [],ds,h=>by simp [ydUy] at h;subst h;simp
 | v::l,ds,h=>by
  simp only [List.map_cons] at h
  have hv:=RAV.of_const1 (T:=T) (w:=w) (av:=av) (γ:=fun _=>undef) v look
  cases hc:(const1 v:AV A) <;> simp only [hc,ydUy] at h <;> try (cases h;done)
  rename_i d
  rw [hc] at hv
  simp only [RAV] at hv
  cases hr:ydUy (A:=A) (l.map const1) with
  | none=>simp [hr] at h
  | some ds' =>
   simp [hr] at h
   subst h
   obtain ⟨h1,h2⟩:=ydGy (look:=look) hr
   refine ⟨by simp [h1],fun j d' hj=>?_⟩
   cases j with
   | zero=>simp at hj;subst hj;exact ⟨v,rfl,hv⟩
   | succ j=>simpa using h2 j d' (by simpa using hj)
theorem yyhy {n:Int} (h0:0≤n) (h1:n≤9223372036854775807):IntKind.i64.wrap n = n:=by
 simp only [IntKind.wrap,IntKind.bits,IntKind.signed]
 have:n % 18446744073709551616 = n:=Int.emod_eq_of_lt h0 (by omega)
 simp [this]
 omega
theorem yvPy (E:Env A) (hok:TyOk E.P E.T) (h:Rel E.T w0 F0 X γ φ av w tmps S) {o:Oper} {t:TypeId} {n c:Operand} {ds:List Deferred} (ho:o.op = .makeSlice t n c)
  (hk:opK E S.look (yafy S.fr) k o = some res) (hf:∀ v u ts,k v u ts = some res→yazy S u = true):Did E.T w0 F0 X tmps S k res ((execOp (Act.eval ⟨tmps,ds⟩) o).run E.P w):=by
 have hn:=h.eval ds n
 have hc:=h.eval ds c
 unfold opK at hk
 simp only [ho] at hk
 unfold execOp
 simp only [ho]
 generalize yafy S.fr n = vn at hk hn
 generalize Act.eval ⟨tmps,ds⟩ n = un at hn
 generalize yafy S.fr c = vc at hk hc
 generalize Act.eval ⟨tmps,ds⟩ c = uc at hc
 split at hk
 ·rename_i e tag kn n kc c he ht
  simp only [RAV,DR.int] at hn hc
  subst hn hc
  split at hk
  case isFalse=>cases hk
  rename_i hse
  obtain ⟨hse,hby⟩:=hse
  have hu:=ybDy he
  cases hz:zeros (A:=A) E.P e with
  | none=>simp [hz] at hk
  | some zs =>
   obtain ⟨z0,hrun,rfl⟩:=ygEy (w:=w) hz
   simp only [hz,Option.bind_some] at hk
   cases hzd:ydUy (A:=A) (z0.cells.toList.map const1) with
   | none=>simp [hzd] at hk
   | some dz =>
    simp only [hzd] at hk
    cases hdec:E.T.dec e dz with
    | none=>simp [hdec] at hk
    | some z =>
     simp only [hdec] at hk
     cases hb:(decide (0≤n)&&(decide (n≤c)&&decide (c * (E.P.bytesOf e:Nat)≤140737488355328))) with
     | false=>simp [hb] at hk
     | true =>
      rw [hb] at hk
      simp only [cond_true] at hk
      simp only [Bool.and_eq_true,decide_eq_true_eq] at hb
      obtain ⟨h0,h1,h2⟩:=hb
      obtain ⟨ie,hie⟩:∃ ie,E.P.info? e = some ie:=by
       cases hi:E.P.info? e with
       | none=>simp [Program.bytesOf,hi] at hby
       | some i=>exact ⟨i,rfl⟩
      have hsz:ie.size = E.T.size e:=by rw [hse];simp [Program.cellsOf,hie]
      have hbytes:ie.bytes = E.P.bytesOf e:=by simp [Program.bytesOf,hie]
      have hcb:c≤140737488355328:=by
       have:c * 1≤c * (E.P.bytesOf e:Nat):=Int.mul_le_mul_of_nonneg_left (by omega) (by omega)
       omega
      have hwn:IntKind.i64.wrap n = n:=yyhy h0 (by omega)
      have hwc:IntKind.i64.wrap c = c:=yyhy (by omega) (by omega)
      obtain ⟨hdl,hdr⟩:=ydGy (T:=E.T) (w:=w) (av:=av) (look:=S.look) hzd
      obtain ⟨hdl',hrep⟩:=hok.dec e _ _ hdec
      have hzsz:z0.cells.size = E.T.size e:=by rw [← hdl',hdl];simp
      have hpos:=hok.size e
      have hcell:∀ p,p < c.toNat * E.T.size e→((Array.range (c.toNat * E.T.size e)).map (fun i=>z0.cells[i % z0.cells.size]!))[p]? = z0.cells[p % E.T.size e]?:=by
       intro p hp
       have hlt:p % E.T.size e < z0.cells.size:=by rw [hzsz];exact Nat.mod_lt _ hpos
       simp only [Array.getElem?_map,Array.getElem?_range,hp,if_true,Option.map_some,hzsz]
       rw [Array.getElem?_eq_getElem hlt,getElem!_pos z0.cells _ hlt]
      have hrow:Row E.T w av ((Array.range (c.toNat * E.T.size e)).map (fun i=>z0.cells[i % z0.cells.size]!)) 0 e (List.replicate n.toNat z):=by
       intro i x hi j d hj
       have hin:i < n.toNat:=by
        rcases Nat.lt_or_ge i n.toNat with h | h
        ·exact h
        ·rw [List.getElem?_eq_none (by simpa using h)] at hi;cases hi
       simp [hin] at hi
       subst hi
       have hjl:=yjBy hok hj
       obtain ⟨d0,hd0⟩:∃ d0,dz[j]? = some d0:=⟨_,List.getElem?_eq_getElem (by rw [hdl'];exact hjl)⟩
       obtain ⟨d',hd',himp⟩:=hrep w av j d0 hd0
       rw [hj] at hd'
       cases hd'
       obtain ⟨u,hu',hdr'⟩:=hdr j d0 hd0
       refine ⟨u,?_,himp u hdr'⟩
       have hle:(i + 1) * E.T.size e≤c.toNat * E.T.size e:=Nat.mul_le_mul_right _ (by omega)
       rw [Nat.add_mul,Nat.one_mul] at hle
       rw [Nat.zero_add,hcell _ (by omega)]
       have:(i * E.T.size e + j) % E.T.size e = j:=by
        rw [Nat.mul_comm,Nat.mul_add_mod,Nat.mod_eq_of_lt hjl]
       rw [this]
       simpa using hu'
      have hno:=yc5y ht
      obtain ⟨hlt,hocc⟩:=ycJy (hf _ _ _ hk) (List.mem_singleton.2 rfl) hno
      obtain ⟨γ',φ',av',hR,hv⟩:=h.new_row (cap:=c.toNat) (w':=w.alloc (.cells ((Array.range (c.toNat * E.T.size e)).map (fun i=>z0.cells[i % z0.cells.size]!)) e)) hlt hno hocc e hrow (by rw [List.length_replicate];omega) (by rw [Array.size_map,Array.size_range];exact Nat.le_refl _) rfl rfl ⟨rfl,fun _=>Nat.le_refl _⟩ rfl
      rw [List.length_replicate] at hv
      refine ⟨_,_,.inl ?_,_,_,_,γ',φ',av',hk,hR,hv⟩
      have ht1:¬ c < 0:=by omega
      have ht2:¬ ((ie.bytes:Int) * c > 2 ^ 48):=by
       rw [hbytes,Int.mul_comm]
       show ¬ (c * (E.P.bytesOf e:Int) > 281474976710656)
       omega
      have ht3:¬ n < 0:=by omega
      have ht4:¬ n > c:=by omega
      have hty:∀ w:World,(typeInfo e).run E.P w = .ok ie w:=fun w=>by simp [typeInfo,hie]
      simp only [Instr.makeSlice,asInt,asIntOf,Sem.run_bind,Sem.run_pure,Result.andThen_ok,run_underlying hu,hty,hwn,hwc]
      have hd1:decide (c < 0) = false:=decide_eq_false ht1
      have hd2:decide ((ie.bytes:Int) * c > 2 ^ 48) = false:=decide_eq_false ht2
      have hd3:decide (n < 0) = false:=decide_eq_false ht3
      have hd4:decide (n > c) = false:=decide_eq_false ht4
      simp only [hd1,hd2,hd3,hd4,Bool.or_false,Bool.false_eq_true,if_false,Sem.run_bind,run_askRoom,Result.andThen_ok,ya7y hie,hsz]
      by_cases hz0:c.toNat * E.T.size e = 0
      ·have harr:∀ f:Nat→Value,(Array.range (c.toNat * E.T.size e)).map f = #[]:=by intro f;simp [hz0]
       simp only [harr,hz0,if_true,Sem.run_pure,Result.andThen_ok]
       simp [newRow]
       congr 2
       apply Array.ext <;> simp
      ·simp only [hz0,if_false,Sem.run_bind,hrun,Sem.run_pure,Result.andThen_ok]
       simp [newRow]
 ·cases hk
end Go.Am
