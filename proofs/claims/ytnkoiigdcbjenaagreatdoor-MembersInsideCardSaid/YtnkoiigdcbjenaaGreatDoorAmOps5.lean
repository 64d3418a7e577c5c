/- Part of an abstract machine for this program, with its soundness: AmOps5. No condition: lemmas for the claim. -/
import Derived.Test.YtnkoiigdcbjenaaGreatDoorAmOps4
import Derived.WideLaws
set_option linter.unusedVariables false
set_option linter.unusedSimpArgs false
namespace Go.Am
open Go
variable {A : Nat → Type}
variable {T : Ty A} {w0 w w' : World} {F0 : List Nat} {X : Nat → Prop} {γ γ' : Nat → Value} {φ φ' : Nat → List Nat} {av av' : Nat → Prop} {tmps : Array Value} {S S' : St A} {R : Type} {P : Program}
variable {k : AV A → Upd A → List Nat → Option R} {res : R}
theorem op_move (E : Env A) (h : Rel E.T w0 F0 X γ φ av w tmps S) {o : Oper} {x : Operand} {ds : List Deferred} (ho : o.op = .move x ∨ o.op = .assign x)
    (hk : opK E S.look (evalAV S.fr) k o = some res) : Did E.T w0 F0 X tmps S k res ((execOp (Act.eval ⟨tmps, ds⟩) o).run E.P w) := by
  unfold opK at hk
  rcases ho with ho | ho <;> simp only [ho] at hk <;> exact did_pure (u := Act.eval ⟨tmps, ds⟩ x) h hk (by simp [execOp, ho]) (h.eval ds x)
theorem op_pick (E : Env A) (h : Rel E.T w0 F0 X γ φ av w tmps S) {o : Oper} {c a b : Operand} {ds : List Deferred} (ho : o.op = .pick c a b)
    (hk : opK E S.look (evalAV S.fr) k o = some res) : Did E.T w0 F0 X tmps S k res ((execOp (Act.eval ⟨tmps, ds⟩) o).run E.P w) := by
  have hc := h.eval ds c
  have ha := h.eval ds a
  have hb := h.eval ds b
  unfold opK at hk
  simp only [ho] at hk
  generalize evalAV S.fr c = vc at hk hc
  generalize evalAV S.fr a = va at hk ha
  generalize evalAV S.fr b = vb at hk hb
  cases vc <;> (try simp only at hk) <;> try (cases hk; done)
  rename_i dc
  cases dc <;> (try simp only at hk) <;> try (cases hk; done)
  rename_i bc
  simp only [RAV, DR.bool] at hc
  cases hp : pickAV bc va vb with
  | none => simp [hp] at hk
  | some v =>
    simp only [hp, Option.bind_some] at hk
    refine did_pure (u := if bc then Act.eval ⟨tmps, ds⟩ a else Act.eval ⟨tmps, ds⟩ b) h hk (by simp [execOp, ho, hc, asBool]) ?_
    unfold pickAV at hp
    split at hp
    · simp only [Option.some.injEq] at hp
      subst hp
      simp only [RAV, DR.bool] at ha hb ⊢
      cases bc <;> simp [ha, hb]
    · cases bc <;> simp at hp
      subst hp
      simpa using hb
    · cases bc <;> simp at hp
      subst hp
      simpa using ha
    · cases bc <;> simp at hp
      subst hp
      simpa using hb
    · cases bc <;> simp at hp
      subst hp
      simpa using ha
    · cases hp
theorem op_extract (E : Env A) (h : Rel E.T w0 F0 X γ φ av w tmps S) {o : Oper} {x : Operand} {i : Nat} {ds : List Deferred} (ho : o.op = .extract x i)
    (hk : opK E S.look (evalAV S.fr) k o = some res) : Did E.T w0 F0 X tmps S k res ((execOp (Act.eval ⟨tmps, ds⟩) o).run E.P w) := by
  have hx := h.eval ds x
  unfold opK at hk
  simp only [ho] at hk
  unfold execOp
  simp only [ho]
  generalize evalAV S.fr x = v at hk hx
  generalize Act.eval ⟨tmps, ds⟩ x = u at hx
  cases v <;> (try simp only at hk) <;> try (cases hk; done)
  rename_i cs
  cases hi : cs[i]? with
  | none => simp [hi] at hk
  | some y =>
    simp only [hi, Option.bind_some] at hk
    simp only [RAV] at hx
    obtain ⟨vs, rfl, hvs⟩ := hx
    obtain ⟨u, hu, hr⟩ := hvs.at i y hi
    have hu' : vs[i]? = some u := by simpa using hu
    exact did_pure (u := u) h hk (by simp [Instr.extract, hu']) hr
theorem op_nilCheck (E : Env A) (h : Rel E.T w0 F0 X γ φ av w tmps S) {o : Oper} {x : Operand} {ds : List Deferred} (ho : o.op = .nilCheck x)
    (hk : opK E S.look (evalAV S.fr) k o = some res) : Did E.T w0 F0 X tmps S k res ((execOp (Act.eval ⟨tmps, ds⟩) o).run E.P w) := by
  have hx := h.eval ds x
  unfold opK at hk
  simp only [ho] at hk
  unfold execOp
  simp only [ho]
  generalize evalAV S.fr x = v at hk hx
  generalize Act.eval ⟨tmps, ds⟩ x = u at hx
  cases v <;> (try simp only at hk) <;> try (cases hk; done)
  case ptr t off =>
    cases hl : S.look t with
    | none => simp [hl] at hk
    | some ob =>
      simp only [hl] at hk
      have hx' := hx
      simp only [RAV] at hx'
      obtain ⟨⟨b, _, rfl⟩, _⟩ := hx' ob hl
      exact did_pure h hk rfl hx
  case elp e t i off =>
    cases hl : S.look t with
    | none => simp [hl] at hk
    | some ob =>
      simp only [hl] at hk
      have hx' := hx
      simp only [RAV] at hx'
      obtain ⟨⟨b, _, _, _, rfl⟩, _⟩ := hx' ob hl
      exact did_pure h hk rfl hx
  case cel cs off =>
    have hx' := hx
    simp only [RAV] at hx'
    obtain ⟨b, o', c, ty, fz, rfl, _⟩ := hx'
    exact did_pure h hk rfl hx
  case fn f cs =>
    have hx' := hx
    simp only [RAV] at hx'
    obtain ⟨vs, rfl, _⟩ := hx'
    exact did_pure h hk rfl hx
theorem op_makeFunc (E : Env A) (h : Rel E.T w0 F0 X γ φ av w tmps S) {o : Oper} {fn : Fn} {fs cs : Array Operand} {ds : List Deferred} (ho : o.op = .makeFunc fn fs cs)
    (hk : opK E S.look (evalAV S.fr) k o = some res) : Did E.T w0 F0 X tmps S k res ((execOp (Act.eval ⟨tmps, ds⟩) o).run E.P w) := by
  unfold opK at hk
  simp only [ho] at hk
  cases fn <;> (try simp only at hk) <;> try (cases hk; done)
  rename_i f
  cases hfs : fs.toList with
  | cons a r => simp [hfs] at hk
  | nil =>
    simp only [hfs] at hk
    have hfs' : fs = #[] := by simpa using hfs
    subst hfs'
    refine did_pure (u := .func (.func f) #[] (cs.map (Act.eval ⟨tmps, ds⟩))) h hk (by simp [execOp, ho, Instr.makeFunc]) ?_
    simp only [RAV]
    refine ⟨_, rfl, RAVs.of_cells (by simp) (fun j x hj => ?_)⟩
    simp only [List.getElem?_map, Option.map_eq_some_iff] at hj
    obtain ⟨a, ha, rfl⟩ := hj
    exact ⟨Act.eval ⟨tmps, ds⟩ a, by simp at ha; simp [ha], h.eval ds a⟩
theorem op_unOp (E : Env A) (h : Rel E.T w0 F0 X γ φ av w tmps S) {o : Oper} {op : UnOp} {t : TypeId} {x : Operand} {ds : List Deferred} (ho : o.op = .unOp op t x)
    (hk : opK E S.look (evalAV S.fr) k o = some res) : Did E.T w0 F0 X tmps S k res ((execOp (Act.eval ⟨tmps, ds⟩) o).run E.P w) := by
  have hx := h.eval ds x
  unfold opK at hk
  simp only [ho] at hk
  unfold execOp
  simp only [ho]
  generalize evalAV S.fr x = v at hk hx
  generalize Act.eval ⟨tmps, ds⟩ x = u at hx
  cases op <;> (try simp only at hk) <;> try (cases hk; done)
  all_goals
    cases v <;> (try simp only at hk) <;> try (cases hk; done)
    rename_i dv
    cases dv <;> (try simp only at hk) <;> try (cases hk; done)
  · simp only [RAV, DR.int] at hx
    subst hx
    exact did_pure h hk (by simp [Op.unary, Op.intArith]; rfl) (by simp [RAV, DR.int])
  · simp only [RAV, DR.bool] at hx
    subst hx
    exact did_pure h hk (by simp [Op.unary]; rfl) (by simp [RAV, DR.bool])
theorem op_convert (E : Env A) (h : Rel E.T w0 F0 X γ φ av w tmps S) {o : Oper} {s d : TypeId} {x : Operand} {ds : List Deferred} (ho : o.op = .convert s d x)
    (hk : opK E S.look (evalAV S.fr) k o = some res) : Did E.T w0 F0 X tmps S k res ((execOp (Act.eval ⟨tmps, ds⟩) o).run E.P w) := by
  have hx := h.eval ds x
  unfold opK at hk
  simp only [ho] at hk
  unfold execOp
  simp only [ho]
  generalize evalAV S.fr x = v at hk hx
  generalize Act.eval ⟨tmps, ds⟩ x = u at hx
  cases hs : E.P.underlying s with
  | none => simp [hs] at hk
  | some sd =>
  cases hd : E.P.underlying d with
  | none => simp [hd] at hk
  | some dd =>
  rw [hs, hd] at hk
  cases v <;> (try simp only at hk) <;> try (cases hk; done)
  case d dv =>
    cases dv <;> (try simp only at hk) <;> try (cases hk; done)
    case int ki n =>
      simp only [RAV, DR.int] at hx
      subst hx
      cases dd <;> (try simp only at hk) <;> try (cases hk; done)
      case int kd =>
        exact did_pure (u := .int kd (kd.wrap n)) h hk (by simp [convert, run_underlying hs, run_underlying hd, Conv.intToInt]) (by simp [RAV, DR.int])
      case string =>
        cases hb : (decide (0 ≤ n) && decide (n < 128)) with
        | false => simp [hb] at hk
        | true =>
          rw [hb] at hk
          simp only [cond_true] at hk
          simp only [Bool.and_eq_true, decide_eq_true_eq] at hb
          obtain ⟨h0, h1⟩ := hb
          refine did_pure (u := .string ⟨⟨[n.toNat.toUInt8]⟩⟩) h hk ?_ (by simp [RAV, DR.str])
          have hv : Utf8.valid n = true := by simp [Utf8.valid]; omega
          have hn : n.toNat < 128 := by omega
          simp only [convert, Sem.run_bind, run_underlying hs, run_underlying hd, Result.andThen_ok]
          simp [Conv.intToString, Utf8.encode, hv, hn]
    case str st =>
      simp only [RAV, DR.str] at hx
      subst hx
      cases dd <;> (try simp only at hk) <;> try (cases hk; done)
      refine did_pure (u := .string ⟨⟨st⟩⟩) h hk ?_ (by simp [RAV, DR.str])
      simp only [convert, Sem.run_bind, run_underlying hs, run_underlying hd, Result.andThen_ok]
      cases sd <;> simp
theorem bytes_list (a : List UInt8) : (⟨⟨a⟩⟩ : ByteArray).toList = a := by rw [ByteArray.toList_eq]
theorem mutual_eq (E : Env A) (h : Rel E.T w0 F0 X γ φ av w tmps S) : ∀ n,
    (∀ t x y u v b d, n ≤ d → RAV E.T w av S.look γ x u → RAV E.T w av S.look γ y v → eqT E.P n t x y = some b → (Op.equalIn d t u v).run E.P w = .ok b w) ∧
    (∀ fs xs ys us vs b d, n ≤ d → RAVs E.T w av S.look γ xs us.toList → RAVs E.T w av S.look γ ys vs.toList → eqF E.P n fs xs ys = some b → (Op.eqFields d us vs fs).run E.P w = .ok b w) := by
  intro n
  induction n with
  | zero => exact ⟨fun t x y u v b d _ _ _ h => by simp [eqT] at h, fun fs xs ys us vs b d _ _ _ h => by simp [eqF] at h⟩
  | succ n ih =>
    refine ⟨fun t x y u v b d hd hx hy he => ?_, fun fs xs ys us vs b d hd hx hy he => ?_⟩
    · obtain ⟨d, rfl⟩ : ∃ m, d = m + 1 := ⟨d - 1, by omega⟩
      simp only [eqT] at he
      cases hu : E.P.underlying t with
      | none => simp [hu] at he
      | some td =>
        rw [hu] at he
        have hone : eqOne td x y = some b → (Op.equalIn (d + 1) t u v).run E.P w = .ok b w := by
          intro ho
          unfold eqOne at ho
          split at ho
          · split at ho
            · rename_i hkk
              simp only [Option.some.injEq] at ho
              simp only [RAV, DR.int] at hx hy
              subst hx hy ho hkk
              exact run_equalIn_int w d t _ _ _ _ hu
            · cases ho
          · simp only [Option.some.injEq] at ho
            simp only [RAV, DR.bool] at hx hy
            subst hx hy ho
            exact run_equalIn_bool' w d t _ _ hu
          · simp only [Option.some.injEq] at ho
            simp only [RAV, DR.str] at hx hy
            subst hx hy ho
            rw [run_equalIn_string w d t _ _ hu, bytes_list, bytes_list]
          · cases ho
        cases td <;> (try dsimp only at he) <;> try (exact hone he)
        rename_i fs
        cases x <;> (try dsimp only at he) <;> try (exact hone he)
        cases y <;> (try dsimp only at he) <;> try (exact hone he)
        split at he
        · cases he
        · rename_i hst
          simp only [RAV] at hx hy
          obtain ⟨us, rfl, hus⟩ := hx
          obtain ⟨vs, rfl, hvs⟩ := hy
          have hfo : E.P.fieldsOf t = fs := by simp [Program.fieldsOf, hu]
          rw [run_equalIn_struct w d t us vs (by rw [hfo]; exact hu) (by simpa using hst), hfo]
          exact ih.2 _ _ _ us vs b d (by omega) hus hvs he
    · cases fs with
      | nil => simp [eqF] at he; subst he; simp [Op.eqFields]
      | cons f fs =>
        simp only [eqF] at he
        split at he
        · cases he
        · rename_i hname
          cases ha : partAV E.P f.type xs f.offset with
          | none => simp [ha] at he
          | some a =>
            cases hb : partAV E.P f.type ys f.offset with
            | none => simp [ha, hb] at he
            | some b' =>
              simp only [ha, hb] at he
              cases h1 : eqT E.P n f.type a b' with
              | none => simp [h1] at he
              | some r =>
                cases h2 : eqF E.P n fs xs ys with
                | none => simp [h1, h2] at he
                | some r2 =>
                  simp [h1, h2] at he
                  have hpart : ∀ {xs : List (AV A)} {us : Array Value} {a : AV A}, RAVs E.T w av S.look γ xs us.toList → partAV E.P f.type xs f.offset = some a →
                      ∃ u, (part f.type us f.offset).run E.P w = .ok u w ∧ RAV E.T w av S.look γ a u := by
                    intro xs us a hx ha
                    unfold partAV at ha
                    cases hq : partL E.P f.type xs f.offset with
                    | none => simp [hq] at ha
                    | some p =>
                      simp [hq] at ha
                      obtain ⟨u, hu', hm⟩ := run_part (w := w) hq (by have := hx.len; simpa using this) (RAV E.T w av S.look γ) (fun j x hj => by obtain ⟨u, hu, hr⟩ := hx.at j x hj; exact ⟨u, by simpa using hu, hr⟩)
                      refine ⟨u, hu', ?_⟩
                      obtain ⟨l, bb⟩ := p
                      cases bb with
                      | true =>
                        obtain ⟨vs, rfl, hl, hx⟩ := hm
                        subst ha
                        simp only [packL, RAV]
                        exact ⟨vs, rfl, RAVs.of_cells (by simpa using hl) (fun j x hj => by simpa using hx j x hj)⟩
                      | false =>
                        obtain ⟨x, hl, hx⟩ := hm
                        simp only at hl
                        subst hl ha
                        simpa [packL] using hx
                  obtain ⟨u, hu, hru⟩ := hpart hx ha
                  obtain ⟨v, hv, hrv⟩ := hpart hy hb
                  have e1 := ih.1 f.type a b' u v r d (by omega) hru hrv h1
                  have e2 := ih.2 fs xs ys us vs r2 d (by omega) hx hy h2
                  simp only [Op.eqFields, ne_eq, hname, not_false_eq_true, if_true, Sem.run_bind, hu, hv, e1, Result.andThen_ok]
                  subst he
                  cases r
                  · simp
                  · simpa using e2
theorem eqAV_run (E : Env A) (h : Rel E.T w0 F0 X γ φ av w tmps S) {t : TypeId} {xo yo : Operand} {x y : AV A} {u v : Value} {b : Bool} (hx : RAV E.T w av S.look γ x u) (hy : RAV E.T w av S.look γ y v) (he : eqAV E.P t xo yo x y = some b) :
    ((eqGuard .eql t xo yo u v).run E.P w = .ok () w ∧ (binOp .eql t u v).run E.P w = .ok (.bool b) w) ∧ ((eqGuard .neq t xo yo u v).run E.P w = .ok () w ∧ (binOp .neq t u v).run E.P w = .ok (.bool (!b)) w) := by
  unfold eqAV at he
  split at he
  · rename_i ms hu
    have hm : E.P.underlying t = some (.interface (E.P.methodsAt t)) := by simp [Program.methodsAt, hu]
    split at he
    · rename_i hc
      simp only [Option.some.injEq] at he
      simp only [RAV, DR.nilif] at hx hy
      subst hx hy he
      have hg : ∀ op, (eqGuard op t xo yo .nilIface .nilIface).run E.P w = .ok () w := by
        intro op
        unfold eqGuard
        cases xo <;> cases yo <;> simp_all [isConst']
      exact ⟨⟨hg _, run_eql_nil_nil w t hm⟩, ⟨hg _, run_neq_nil_nil w t hm⟩⟩
    · cases he
  · rename_i ms hu
    have hm : E.P.underlying t = some (.interface (E.P.methodsAt t)) := by simp [Program.methodsAt, hu]
    simp only [Option.some.injEq] at he
    simp only [RAV, DR.nilif, DR.anyif] at hx hy
    obtain ⟨tx, x', rfl⟩ := hx
    subst hy he
    exact ⟨⟨rfl, run_eql_held_nil w t tx x' hm⟩, ⟨rfl, run_neq_held_nil w t tx x' hm⟩⟩
  · rename_i hu
    simp only [Option.some.injEq] at he
    simp only [RAV, DR.bool] at hx hy
    subst hx hy he
    refine ⟨⟨rfl, ?_⟩, ⟨rfl, ?_⟩⟩
    · simp only [binOp]
      simp [Op.equal, Op.maxDepth, run_equalIn_bool' w 9999 t _ _ hu]
    · simp only [binOp]
      simp [Op.equal, Op.maxDepth, run_equalIn_bool' w 9999 t _ _ hu]
  · rename_i fs xs ys hu
    split at he
    · cases he
    · rename_i hm
      have hr := (mutual_eq E h 64).1 t _ _ u v b 10000 (by omega) hx hy he
      simp only [RAV] at hx hy
      obtain ⟨us, rfl, _⟩ := hx
      obtain ⟨vs, rfl, _⟩ := hy
      have hm' : E.P.eqGuardType E.P.depth t = false := by simpa using hm
      exact ⟨⟨run_eqGuard_agg w .eql t xo yo us vs hm', by rw [run_eql_struct, hr]; rfl⟩, ⟨run_eqGuard_agg w .neq t xo yo us vs hm', by rw [run_neq_struct, hr]; rfl⟩⟩
  · cases he
theorem op_binOp (E : Env A) (h : Rel E.T w0 F0 X γ φ av w tmps S) {o : Oper} {op : BinOp} {t t' : TypeId} {x y : Operand} {ds : List Deferred} (ho : o.op = .binOp op t x y t')
    (hk : opK E S.look (evalAV S.fr) k o = some res) : Did E.T w0 F0 X tmps S k res ((execOp (Act.eval ⟨tmps, ds⟩) o).run E.P w) := by
  have hx := h.eval ds x
  have hy := h.eval ds y
  unfold opK at hk
  simp only [ho] at hk
  unfold execOp
  simp only [ho]
  generalize evalAV S.fr x = vx at hk hx
  generalize Act.eval ⟨tmps, ds⟩ x = ux at hx
  generalize evalAV S.fr y = vy at hk hy
  generalize Act.eval ⟨tmps, ds⟩ y = uy at hy
  have main : ∀ (u : Value) (v : AV A), (eqGuard op t x y ux uy).run E.P w = .ok () w → (binOp op t ux uy).run E.P w = .ok u w → k v [] [] = some res → RAV E.T w av S.look γ v u →
      Did E.T w0 F0 X tmps S k res ((do let a ← (do eqGuard op t x y ux uy; binOp op t ux uy); pure (Next.value a) : Sem Next).run E.P w) := by
    intro u v h1 h2 h3 h4
    exact did_pure (u := u) h h3 (by simp [h1, h2]) h4
  split at hk
  · rename_i ka a kb b
    simp only [RAV, DR.int] at hx hy
    subst hx hy
    split at hk
    · rename_i hkk
      subst hkk
      cases hb : b == 0 with
      | true => simp [hb] at hk
      | false =>
        rw [hb] at hk
        simp only [cond_false] at hk
        have hb' : b ≠ 0 := by simpa using hb
        exact main (.int ka (ka.wrap (a.tdiv b))) _ rfl (by rw [binOp_quo]; simp [Op.intDiv, hb']) hk (by simp [RAV, DR.int])
    · cases hk
  · rename_i ka a kb b
    simp only [RAV, DR.int] at hx hy
    subst hx hy
    split at hk
    · rename_i hkk
      subst hkk
      cases hb : b == 0 with
      | true => simp [hb] at hk
      | false =>
        rw [hb] at hk
        simp only [cond_false] at hk
        have hb' : b ≠ 0 := by simpa using hb
        exact main (.int ka (a.tmod b)) _ rfl (by rw [binOp_rem]; simp [Op.intDiv, hb']) hk (by simp [RAV, DR.int])
    · cases hk
  · rename_i ka a kb b
    simp only [RAV, DR.int] at hx hy
    subst hx hy
    cases hb : decide (0 ≤ b) && decide (b ≤ (ka.bits : Int)) with
    | false => rw [hb] at hk; cases hk
    | true =>
      rw [hb] at hk
      simp only [cond_true] at hk
      simp only [Bool.and_eq_true, decide_eq_true_eq] at hb
      refine main (.int ka (a.fdiv (2 ^ b.toNat))) _ rfl ?_ hk (by simp [RAV, DR.int])
      have hn : ¬ b < 0 := by omega
      have hm : min b.toNat ka.bits = b.toNat := by omega
      simp [binOp, Op.shift, hn, hm]
  · rename_i a b
    simp only [RAV, DR.str] at hx hy
    subst hx hy
    cases hb : decide (a.length + b.length ≤ 9223372036854775807) with
    | false => simp only [strOk, hb, cond_false] at hk; cases hk
    | true =>
      rw [strOk, hb] at hk
      simp only [cond_true] at hk
      have hb' := of_decide_eq_true hb
      refine main (.string ⟨⟨a ++ b⟩⟩) _ rfl ?_ hk (by simp [RAV, DR.str])
      have hsz : ¬ (((⟨⟨a⟩⟩ : ByteArray).size + (⟨⟨b⟩⟩ : ByteArray).size : Nat) : Int) > IntKind.i64.max := by
        show ¬ (((a.length + b.length : Nat) : Int) > 9223372036854775807)
        omega
      simp only [binOp, Op.stringOp]
      rw [if_neg hsz]
      rfl
  · rename_i h1 h2 h3 h4
    cases hbv : binAV op vx vy with
    | some v =>
      rw [hbv] at hk
      simp only at hk
      unfold binAV at hbv
      split at hbv
      · rename_i ka a kb b
        simp only [RAV, DR.int] at hx hy
        subst hx hy
        split at hbv
        · cases hbv
        · rename_i hkk
          have hkk : ka = kb := by simpa using hkk
          subst hkk
          split at hbv <;> (try simp only [Option.some.injEq] at hbv) <;> (try (subst hbv)) <;> (try (cases hbv; done))
          · exact main _ _ rfl (by simp [binOp, Op.intArith]; rfl) hk (by simp [RAV, DR.int])
          · exact main _ _ rfl (by simp [binOp, Op.intArith]; rfl) hk (by simp [RAV, DR.int])
          · exact main _ _ rfl (by simp [binOp, Op.intArith]; rfl) hk (by simp [RAV, DR.int])
          all_goals exact main _ _ rfl (by simp [binOp, Op.intCmp]; rfl) hk (by simp [RAV, DR.bool])
      · rename_i a b
        simp only [RAV, DR.str] at hx hy
        subst hx hy
        have e1 : (⟨⟨a⟩⟩ : ByteArray).toList = a := bytes_list a
        have e2 : (⟨⟨b⟩⟩ : ByteArray).toList = b := bytes_list b
        split at hbv <;> (try simp only [Option.some.injEq] at hbv) <;> (try (subst hbv)) <;> (try (cases hbv; done))
        all_goals exact main _ _ rfl (by simp only [binOp, Op.stringOp, e1, e2]; rfl) hk (by simp [RAV, DR.bool])
      · cases hbv
    | none =>
      rw [hbv] at hk
      simp only at hk
      cases he : eqAV E.P t x y vx vy with
      | none => rw [he] at hk; cases op <;> cases hk
      | some b =>
        obtain ⟨⟨e1, e2⟩, e3, e4⟩ := eqAV_run E h hx hy he
        rw [he] at hk
        cases op <;> (try simp only at hk) <;> try (cases hk; done)
        · exact main _ _ e1 e2 hk (by simp [RAV, DR.bool])
        · exact main _ _ e3 e4 hk (by simp [RAV, DR.bool])
end Go.Am
