/- Part of an abstract machine for this program, with its soundness: AmOp. No condition: lemmas for the claim. -/
import Derived.Test.YtnkoiigdcbjenaaGreatDoorAmCall6
import Derived.Test.YtnkoiigdcbjenaaGreatDoorAmOps7
set_option linter.unusedVariables false
set_option linter.unusedSimpArgs false
namespace Go.Am
open Go
variable {A : Nat → Type}
variable {T : Ty A} {w0 w w' : World} {F0 : List Nat} {X : Nat → Prop} {γ γ' : Nat → Value} {φ φ' : Nat → List Nat} {av av' : Nat → Prop} {tmps : Array Value} {S S' : St A} {R : Type} {P : Program}
variable {k : AV A → Upd A → List Nat → Option R} {res : R}
structure EnvOk (E : Env A) : Prop where
  ty : TyOk E.P E.T
  tab : TabSound E.P E.T E.C
  flat : FlatOk E.T E.flat
  keys : ∀ k, E.keyed k = true → KeyOk E.P E.T k ∧ ∃ kd, E.P.underlying k = some kd
  sp : ∀ f s, E.sp f = some s → SpOk E.P E.T f s
def Ran (E : Env A) (w0 : World) (F0 : List Nat) (X : Nat → Prop) (tmps : Array Value) (S : St A) (k : AV A → Upd A → List Nat → Option R) (res : R) (w : World) (r : Result Next) : Prop :=
  Did E.T w0 F0 X tmps S k res r ∨ ∃ f us, r = .ok (.enter f us) w ∧ Calls E.P f us w (fun e w' => ∃ v, e = .returned v ∧ After E.T w0 F0 X tmps S k res v w')
theorem op_store (E : Env A) (hok : TyOk E.P E.T) (h : Rel E.T w0 F0 X γ φ av w tmps S) {o : Oper} {t : TypeId} {a x : Operand} {ds : List Deferred} (ho : o.op = .store t a x)
    (hk : opK E S.look (evalAV S.fr) k o = some res) : Did E.T w0 F0 X tmps S k res ((execOp (Act.eval ⟨tmps, ds⟩) o).run E.P w) := by
  have ha := h.eval ds a
  have hx := h.eval ds x
  have hocc : ∀ u, occAV u (evalAV S.fr x) = true → occSt u S = true := fun u hu => occ_eval hu
  unfold opK at hk
  simp only [ho] at hk
  generalize evalAV S.fr a = va at hk ha
  generalize evalAV S.fr x = vx at hk hx hocc
  split at hk
  · rename_i hc
    obtain ⟨hn, h1, hi⟩ := hc
    cases va <;> (try simp only at hk) <;> try (cases hk; done)
    case ptr tg off =>
      cases hl : S.look tg with
      | none => simp [hl] at hk
      | some ob =>
        rw [hl] at hk
        cases ob <;> (try simp only at hk) <;> try (cases hk; done)
        rename_i cs
        split at hk
        · rename_i hle
          obtain ⟨w', γ', φ', h2, h3⟩ := op_store_ptr h hx hocc hn h1 hi hl hle ha
          refine ⟨undef, w', .inr ⟨?_, rfl⟩, .undef, _, _, γ', φ', av, hk, h3, trivial⟩
          simp [execOp, ho, h2]
        · cases hk
    case elp e tg i off =>
      cases hl : S.look tg with
      | none => simp [hl] at hk
      | some ob =>
        cases hds : toDs S.look vx.cells with
        | none => rw [hl, hds] at hk; cases ob <;> simp at hk
        | some p =>
          obtain ⟨ds', u, ts⟩ := p
          rw [hl, hds] at hk
          cases ob <;> (try simp only at hk) <;> try (cases hk; done)
          rename_i e' xs
          split at hk
          · rename_i hc
            obtain ⟨rfl, htg⟩ := hc
            cases hy : xs[i]? with
            | none => simp [hy] at hk
            | some y =>
              rw [hy] at hk
              simp only at hk
              split at hk
              · rename_i hoff
                cases hdec : E.T.dec e' (Am.splice (E.T.enc e' y) off ds') with
                | none => simp [hdec] at hk
                | some y' =>
                  simp only [hdec] at hk
                  obtain ⟨w', γ', φ', av', h2, h3⟩ := op_store_elp hok h hx hn h1 hi hl hds htg hy hoff hdec ha
                  refine ⟨undef, w', .inr ⟨?_, rfl⟩, .undef, _, _, γ', φ', av', hk, h3, trivial⟩
                  simp [execOp, ho, h2]
              · cases hk
          · cases hk
  · cases hk
theorem maxAV_run {look : Nat → Option (Ob A)} : ∀ {xs : List (AV A)} {x : AV A} {us : List Value} {u : Value} {v : AV A}, RAV T w av look γ x u → RAVs T w av look γ xs us → maxAV x xs = some v →
    ∃ r, (us.foldlM Builtin.max2 u : Sem Value).run P w = .ok r w ∧ RAV T w av look γ v r
  | [], x, us, u, v, hx, hxs, h => by
    simp only [RAVs] at hxs
    subst hxs
    cases x <;> simp [maxAV] at h <;> subst h <;> exact ⟨u, by simp, hx⟩
  | y :: ys, x, us, u, v, hx, hxs, h => by
    simp only [RAVs] at hxs
    obtain ⟨uy, us', rfl, hy, hys⟩ := hxs
    unfold maxAV at h
    split at h
    · rename_i heq; cases heq
    · rename_i kx a ky b r heq
      cases heq
      split at h
      · rename_i hkk
        subst hkk
        simp only [RAV, DR.int] at hx hy
        subst hx hy
        obtain ⟨r, h1, h2⟩ := maxAV_run (x := .d (.int kx (if b > a then b else a))) (u := .int kx (if b > a then b else a)) (by simp only [RAV, DR.int]) hys h
        exact ⟨r, by simpa [Builtin.max2] using h1, h2⟩
      · cases h
    · cases h
theorem minAV_run {look : Nat → Option (Ob A)} : ∀ {xs : List (AV A)} {x : AV A} {us : List Value} {u : Value} {v : AV A}, RAV T w av look γ x u → RAVs T w av look γ xs us → minAV x xs = some v →
    ∃ r, (us.foldlM Builtin.min2 u : Sem Value).run P w = .ok r w ∧ RAV T w av look γ v r
  | [], x, us, u, v, hx, hxs, h => by
    simp only [RAVs] at hxs
    subst hxs
    cases x <;> simp [minAV] at h <;> subst h <;> exact ⟨u, by simp, hx⟩
  | y :: ys, x, us, u, v, hx, hxs, h => by
    simp only [RAVs] at hxs
    obtain ⟨uy, us', rfl, hy, hys⟩ := hxs
    unfold minAV at h
    split at h
    · rename_i heq; cases heq
    · rename_i kx a ky b r heq
      cases heq
      split at h
      · rename_i hkk
        subst hkk
        simp only [RAV, DR.int] at hx hy
        subst hx hy
        obtain ⟨r, h1, h2⟩ := minAV_run (x := .d (.int kx (if b < a then b else a))) (u := .int kx (if b < a then b else a)) (by simp only [RAV, DR.int]) hys h
        exact ⟨r, by simpa [Builtin.min2] using h1, h2⟩
      · cases h
    · cases h
theorem Rel.evals (h : Rel T w0 F0 X γ φ av w tmps S) (ds : List Deferred) : ∀ (l : List Operand), RAVs T w av S.look γ (l.map (evalAV S.fr)) (l.map (Act.eval ⟨tmps, ds⟩))
  | [] => by simp [RAVs]
  | x :: xs => by simp only [List.map_cons, RAVs]; exact ⟨_, _, rfl, h.eval ds x, h.evals ds xs⟩
theorem op_call (E : Env A) (hE : EnvOk E) (h : Rel E.T w0 F0 X γ φ av w tmps S) {o : Oper} {c : Call} {ds : List Deferred} (ho : o.op = .call c)
    (hk : opK E S.look (evalAV S.fr) k o = some res) (hf : ∀ v u ts, k v u ts = some res → freshB S u = true) : Ran E w0 F0 X tmps S k res w ((execOp (Act.eval ⟨tmps, ds⟩) o).run E.P w) := by
  have hargs := h.evals ds c.args.toList
  unfold opK at hk
  simp only [ho] at hk
  cases hcal : c.callee with
  | invoke r n => simp [hcal] at hk
  | value f =>
    simp only [hcal] at hk
    have hv := h.eval ds f
    have hoc : ∀ t, occAV t (evalAV S.fr f) = true → occSt t S = true := fun t ht => occ_eval ht
    generalize evalAV S.fr f = vf at hk hv hoc
    cases vf <;> (try simp only at hk) <;> try (cases hk; done)
    rename_i fn caps
    simp only [RAV] at hv
    obtain ⟨vs, hv, hvs⟩ := hv
    obtain ⟨h1, h2⟩ := callS_sound E hE.tab hE.sp hE.flat h (hargs.append hvs) (fun t ht => by
      rw [occAVs_append, Bool.or_eq_true] at ht
      rcases ht with ht | ht
      · have : ∀ (l : List Operand), occAVs t (l.map (evalAV S.fr)) = true → occSt t S = true := by
          intro l
          induction l with
          | nil => simp [occAVs]
          | cons x xs ih =>
            intro hl
            simp only [List.map_cons, occAVs, Bool.or_eq_true] at hl
            exact hl.elim occ_eval ih
        exact this _ ht
      · exact hoc t (by simpa [occAV] using ht)) hf hk
    refine .inr ⟨fn, _, ?_, h2⟩
    simp [execOp, ho, resolve, hcal, hv, Deferred.ofValue, invoke]
    have := h1 (c.args.map (Act.eval ⟨tmps, ds⟩) ++ vs) w
    rw [this]
    congr 2
    apply Array.toList_inj.1
    simp
  | builtin b =>
    simp only [hcal] at hk
    cases b <;> (try simp only at hk) <;> try (cases hk; done)
    case append =>
      cases hca : c.args.toList with
      | nil => simp [hca] at hk
      | cons s r =>
        cases r with
        | nil => simp [hca] at hk
        | cons x r =>
          cases r with
          | cons y r => simp [hca] at hk
          | nil =>
            cases hct : c.argTypes.toList with
            | nil => simp [hca, hct] at hk
            | cons sT r =>
              cases r with
              | nil => simp [hca, hct] at hk
              | cons xT r =>
                cases r with
                | cons y r => simp [hca, hct] at hk
                | nil =>
                  simp only [hca, hct] at hk
                  obtain ⟨u, w', h1, h2⟩ := append_did E hE.ty h hk hf (h.eval ds s) (h.eval ds x) o.type
                  refine .inl ⟨u, w', .inl ?_, h2⟩
                  have e1 : c.args = #[s, x] := Array.toList_inj.1 (by simp [hca])
                  have e2 : c.argTypes = #[sT, xT] := Array.toList_inj.1 (by simp [hct])
                  simp [execOp, ho, resolve, hcal, invoke, builtin, e1, e2, h1]
    case len =>
      cases hca : c.args.toList with
      | nil => simp [hca] at hk
      | cons x r =>
        cases r with
        | cons y r => simp [hca] at hk
        | nil =>
          cases hct : c.argTypes.toList with
          | nil => simp [hca, hct] at hk
          | cons t r =>
            cases r with
            | cons y r => simp [hca, hct] at hk
            | nil =>
              simp only [hca, hct] at hk
              cases hl : lenAV S.look (evalAV S.fr x) with
              | none => simp [hl] at hk
              | some p =>
                obtain ⟨n, ts⟩ := p
                cases ht : lenT E.P t (evalAV S.fr x) with
                | false => simp [hl, ht] at hk
                | true =>
                  simp only [hl, ht] at hk
                  have h1 := op_len E h (h.eval ds x) hl ht (ty := o.type)
                  have e1 : c.args = #[x] := Array.toList_inj.1 (by simp [hca])
                  have e2 : c.argTypes = #[t] := Array.toList_inj.1 (by simp [hct])
                  exact .inl (did_pure (u := .int .i64 n) h hk (by simp [execOp, ho, resolve, hcal, invoke, builtin, e1, e2, h1]) (by simp only [RAV, DR.int]))
    case clear =>
      cases hca : c.args.toList with
      | nil => simp [hca] at hk
      | cons x r =>
        cases r with
        | cons y r => simp [hca] at hk
        | nil =>
          cases hct : c.argTypes.toList with
          | nil => simp [hca, hct] at hk
          | cons t r =>
            cases r with
            | cons y r => simp [hca, hct] at hk
            | nil =>
              simp only [hca, hct] at hk
              have hx := h.eval ds x
              have e1 : c.args = #[x] := Array.toList_inj.1 (by simp [hca])
              have e2 : c.argTypes = #[t] := Array.toList_inj.1 (by simp [hct])
              generalize evalAV S.fr x = vx at hk hx
              split at hk
              · rename_i e' tg lo hi e he
                split at hk
                · rename_i e'' xs dz hl hz
                  split at hk
                  · rename_i hc
                    obtain ⟨rfl, rfl, hsz⟩ := hc
                    split at hk
                    · rename_i z hdz
                      cases hb : (decide (0 ≤ lo) && (decide (lo ≤ hi) && decide (hi.toNat ≤ xs.length))) with
                      | false => rw [hb] at hk; cases hk
                      | true =>
                        rw [hb] at hk
                        simp only [cond_true] at hk
                        simp only [Bool.and_eq_true, decide_eq_true_eq] at hb
                        cases hzz : zeros (A := A) E.P e'' with
                        | none => simp [hzz] at hz
                        | some cs =>
                          simp [hzz] at hz
                          obtain ⟨w', γ', φ', h1, h2⟩ := clear_run E hE.ty h hx hl (under_of_elemT he) hzz hz hdz hb.1 hb.2.1 hb.2.2 (ty := o.type)
                          refine .inl ⟨.tuple #[], w', .inl ?_, _, _, _, γ', φ', av, hk, h2, ?_⟩
                          · simp [execOp, ho, resolve, hcal, invoke, builtin, e1, e2, h1]
                          · simp only [RAV, RAVs]
                            exact ⟨_, rfl, rfl⟩
                    · cases hk
                  · cases hk
                · cases hk
              · cases hk
    case delete =>
      cases hca : c.args.toList with
      | nil => simp [hca] at hk
      | cons x r =>
        cases r with
        | nil => simp [hca] at hk
        | cons i r =>
          cases r with
          | cons y r => simp [hca] at hk
          | nil =>
            cases hct : c.argTypes.toList with
            | nil => simp [hca, hct] at hk
            | cons t tl =>
              simp only [hca, hct] at hk
              have hx := h.eval ds x
              have hi := h.eval ds i
              have e1 : c.args = #[x, i] := Array.toList_inj.1 (by simp [hca])
              have e2 : c.argTypes[0]? = some t := by rw [← Array.getElem?_toList, hct]; rfl
              generalize evalAV S.fr x = vx at hk hx
              generalize evalAV S.fr i = vi at hk hi
              split at hk
              · rename_i ki e tg hm
                split at hk
                · rename_i k' e' m key hl hun
                  split at hk
                  · rename_i m' hcm hkd
                    obtain ⟨rfl, rfl, hmm⟩ := castM_of hcm
                    have hm2 : m = m' := hmm.symm
                    clear hmm hcm
                    subst hm2
                    obtain ⟨w', γ', φ', h1, h2⟩ := delete_run E hE.ty hE.keys h hx hi hm hl hun hkd (ty := o.type) c.argTypes e2
                    refine .inl ⟨.tuple #[], w', .inl ?_, _, _, _, γ', φ', av, hk, h2, ?_⟩
                    · simp [execOp, ho, resolve, hcal, invoke, builtin, e1, h1]
                    · simp only [RAV, RAVs]
                      exact ⟨_, rfl, rfl⟩
                  · cases hk
                · cases hk
              · cases hk
    case max =>
      cases hca : c.args.toList with
      | nil => simp [hca] at hk
      | cons x r =>
        simp only [hca] at hk
        cases hm : maxAV (evalAV S.fr x) (r.map (evalAV S.fr)) with
        | none => simp [hm] at hk
        | some v =>
          simp only [hm, Option.bind_some] at hk
          obtain ⟨u, h1, h2⟩ := maxAV_run (P := E.P) (h.eval ds x) (h.evals ds r) hm
          refine .inl (did_pure (u := u) h hk ?_ h2)
          simp [execOp, ho, resolve, hcal, invoke, builtin, Builtin.max_, hca, h1]
    case min =>
      cases hca : c.args.toList with
      | nil => simp [hca] at hk
      | cons x r =>
        simp only [hca] at hk
        cases hm : minAV (evalAV S.fr x) (r.map (evalAV S.fr)) with
        | none => simp [hm] at hk
        | some v =>
          simp only [hm, Option.bind_some] at hk
          obtain ⟨u, h1, h2⟩ := minAV_run (P := E.P) (h.eval ds x) (h.evals ds r) hm
          refine .inl (did_pure (u := u) h hk ?_ h2)
          simp [execOp, ho, resolve, hcal, invoke, builtin, Builtin.min_, hca, h1]
theorem op_sound (E : Env A) (hE : EnvOk E) (h : Rel E.T w0 F0 X γ φ av w tmps S) {o : Oper} {ds : List Deferred}
    (hk : opK E S.look (evalAV S.fr) k o = some res) (hf : ∀ v u ts, k v u ts = some res → freshB S u = true) : Ran E w0 F0 X tmps S k res w ((execOp (Act.eval ⟨tmps, ds⟩) o).run E.P w) := by
  have hok := hE.ty
  cases ho : o.op with
  | move x => exact .inl (op_move E h (.inl ho) hk)
  | assign x => exact .inl (op_move E h (.inr ho) hk)
  | pick c a b => exact .inl (op_pick E h ho hk)
  | alloc e => exact .inl (op_alloc E h ho hk hf)
  | box e x => exact .inl (op_box E h ho hk hf)
  | build t ps => exact .inl (op_build E h ho hk)
  | buildSlice t n ps => exact .inl (op_buildSlice E hok h ho hk hf)
  | load t a => exact .inl (op_load E h ho hk)
  | store t a x => exact .inl (op_store E hok h ho hk)
  | nilCheck x => exact .inl (op_nilCheck E h ho hk)
  | binOp op t x y t' => exact .inl (op_binOp E h ho hk)
  | unOp op t x => exact .inl (op_unOp E h ho hk)
  | convert s d x => exact .inl (op_convert E h ho hk)
  | makeFunc fn fs cs => exact .inl (op_makeFunc E h ho hk)
  | makeSlice t n c => exact .inl (op_makeSlice E hok h ho hk hf)
  | slice t x lo hi mx => exact .inl (op_slice E hok h ho hk hf)
  | fieldAddr s x f => exact .inl (op_fieldAddr E h ho hk)
  | field s x f => exact .inl (op_field E h ho hk)
  | indexAddr t x i => exact .inl (op_indexAddr E hok h ho hk)
  | index t x i => exact .inl (op_index E h ho hk)
  | extract x i => exact .inl (op_extract E h ho hk)
  | makeMap t r => exact .inl (op_makeMap E h ho hk hf)
  | lookup t x i ok => exact .inl (op_lookup E hok hE.keys h ho hk)
  | mapUpdate t x i y => exact .inl (op_mapUpdate E hok hE.keys h ho hk)
  | call c => exact op_call E hE h ho hk hf
  | _ => unfold opK at hk; simp only [ho] at hk; cases hk
theorem op_wp (E : Env A) (hE : EnvOk E) (h : Rel E.T w0 F0 X γ φ av w tmps S) {o : Oper} {ds : List Deferred}
    (hk : opK E S.look (evalAV S.fr) k o = some res) (hf : ∀ v u ts, k v u ts = some res → freshB S u = true) {next : Act → World → Prop} {Q : Exit → Act → World → Prop}
    (hn : ∀ u w', After E.T w0 F0 X tmps S k res u w' → next (Act.put ⟨tmps, ds⟩ o.dst u) w') : o.wp E.P ⟨tmps, ds⟩ w next Q := by
  unfold Oper.wp
  rcases op_sound E hE h (ds := ds) hk hf with ⟨u, w', h1 | ⟨h1, rfl⟩, h2⟩ | ⟨f, us, h1, h2⟩
  · rw [h1]; exact hn u w' h2
  · rw [h1]; exact hn undef w' h2
  · rw [h1]
    exact Calls.mono h2 (by rintro e w' ⟨v, rfl, h3⟩; exact hn v w' h3)
end Go.Am
