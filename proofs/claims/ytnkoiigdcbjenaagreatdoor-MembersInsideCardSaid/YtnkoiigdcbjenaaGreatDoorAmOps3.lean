/- Part of an abstract machine for this program, with its soundness: AmOps3. No condition: lemmas for the claim. -/
import Derived.Test.YtnkoiigdcbjenaaGreatDoorAmOps2
set_option linter.unusedVariables false
set_option linter.unusedSimpArgs false
namespace Go.Am
open Go
variable {A : Nat → Type}
variable {T : Ty A} {w0 w w' : World} {F0 : List Nat} {X : Nat → Prop} {γ γ' : Nat → Value} {φ φ' : Nat → List Nat} {av av' : Nat → Prop} {tmps : Array Value} {S S' : St A} {R : Type} {P : Program}
variable {k : AV A → Upd A → List Nat → Option R} {res : R}
theorem fieldOff_of {s f o t : Nat} (h : fieldOff P s f = some (o, t)) : ∃ fs x i, P.underlying s = some (.struct fs) ∧ fs[f]? = some x ∧ x.offset = o ∧ x.type = t ∧ P.info? t = some i ∧ i.size ≠ 0 ∧ P.cellsOf t = i.size := by
  unfold fieldOff at h
  split at h
  · rename_i fs hu
    cases hx : fs[f]? with
    | none => simp [hx] at h
    | some x =>
      simp only [hx, Option.bind_some] at h
      split at h
      · cases h
      · rename_i hc
        simp at h
        obtain ⟨rfl, rfl⟩ := h
        cases hi : P.info? x.type with
        | none => simp [Program.cellsOf, hi] at hc
        | some i => exact ⟨fs, x, i, hu, hx, rfl, rfl, rfl, by simpa [Program.cellsOf, hi] using hc, by simp [Program.cellsOf, hi]⟩
  · cases h
theorem run_fieldAt {s f o t : Nat} (h : fieldOff P s f = some (o, t)) (b off : Nat) : (Instr.fieldAt s (.pointer (some ⟨b, off, none⟩)) f).run P w = .ok (.pointer (some ⟨b, off + o, none⟩)) w := by
  obtain ⟨fs, x, i, hu, hx, rfl, rfl, hi, hne, _⟩ := fieldOff_of h
  simp [Instr.fieldAt, run_underlying hu, hx, Instr.sureAddr, fieldPlace, run_sizeOf' hi, hne, addr_add]
theorem op_fieldAddr (E : Env A) (h : Rel E.T w0 F0 X γ φ av w tmps S) {o : Oper} {s : TypeId} {x : Operand} {f : Nat} {ds : List Deferred} (ho : o.op = .fieldAddr s x f)
    (hk : opK E S.look (evalAV S.fr) k o = some res) : Did E.T w0 F0 X tmps S k res ((execOp (Act.eval ⟨tmps, ds⟩) o).run E.P w) := by
  have hx := h.eval ds x
  unfold opK at hk
  simp only [ho] at hk
  unfold execOp
  simp only [ho]
  cases hf : fieldOff E.P s f with
  | none => simp [hf] at hk
  | some p =>
    obtain ⟨off', t⟩ := p
    simp only [hf] at hk
    generalize evalAV S.fr x = v at hk hx
    generalize Act.eval ⟨tmps, ds⟩ x = u at hx
    have dead : ∀ {t : Nat}, S.look t = none → ∀ (u : Value), (∀ b off, u ≠ .pointer (some ⟨b, off, none⟩)) → False → True := fun _ _ _ _ => trivial
    cases v <;> simp only at hk <;> try (cases hk; done)
    case ptr tg off =>
      cases hl : S.look tg with
      | none => simp [hl] at hk
      | some ob =>
        simp only [RAV] at hx
        obtain ⟨⟨b, hg, rfl⟩, hb⟩ := hx ob hl
        rw [hl] at hk
        simp at hk
        refine did_pure (u := .pointer (some ⟨b, off + off', none⟩)) h hk (by simp [run_fieldAt hf]) ?_
        simp only [RAV]
        intro o' ho'
        rw [hl] at ho'
        cases ho'
        exact ⟨⟨b, hg, rfl⟩, hb⟩
    case elp e tg i off =>
      cases hl : S.look tg with
      | none => simp [hl] at hk
      | some ob =>
        simp only [RAV] at hx
        obtain ⟨⟨b, n, cap, hg, rfl⟩, hb⟩ := hx ob hl
        rw [hl] at hk
        simp at hk
        refine did_pure (u := .pointer (some ⟨b, i * E.T.size e + (off + off'), none⟩)) h hk (by rw [← Nat.add_assoc]; simp [run_fieldAt hf]) ?_
        simp only [RAV]
        intro o' ho'
        rw [hl] at ho'
        cases ho'
        exact ⟨⟨b, n, cap, hg, rfl⟩, hb⟩
    case cel cs off =>
      simp only [RAV] at hx
      obtain ⟨b, o', c, ty, fz, rfl, hav, hc, hr⟩ := hx
      refine did_pure (u := .pointer (some ⟨b, o' + (off + off'), none⟩)) h hk (by rw [← Nat.add_assoc]; simp [run_fieldAt hf]) ?_
      simp only [RAV]
      exact ⟨b, o', c, ty, fz, rfl, hav, hc, hr⟩
theorem run_part {α : Type} {t : TypeId} {cs : List α} {off : Nat} {p : List α × Bool} (hp : partL P t cs off = some p) {c : Array Value} (hl : c.size = cs.length)
    (rel : α → Value → Prop) (hr : ∀ (j : Nat) (x : α), cs[j]? = some x → ∃ u, c[j]? = some u ∧ rel x u) : ∃ v, (part t c off).run P w = .ok v w ∧ PartIs rel p v := by
  cases hu : P.underlying t with
  | none => simp [partL, hu] at hp
  | some d =>
    obtain ⟨i, hi, hsz⟩ := info_of_under hu
    rcases partL_agg hu hp with ⟨hd, hle, rfl⟩ | ⟨hd, x, hx, rfl⟩
    · refine ⟨.agg (c.extract off (off + P.cellsOf t)), ?_, ?_⟩
      · unfold part
        simp only [Sem.run_bind, run_isAgg hu, Result.andThen_ok, hd, if_true, run_sizeOf' hi, ← hsz, Sem.run_pure]
      · refine ⟨_, rfl, by simp; omega, fun j x hx => ?_⟩
        have hj : j < P.cellsOf t := by
          rcases Nat.lt_or_ge j (P.cellsOf t) with h | h
          · exact h
          · have hx' : ((cs.drop off).take (P.cellsOf t))[j]? = some x := hx
            rw [List.getElem?_eq_none (by simp; omega)] at hx'; cases hx'
        simp only [List.getElem?_take_of_lt hj, List.getElem?_drop] at hx
        obtain ⟨u, hu, hr'⟩ := hr (off + j) x hx
        refine ⟨u, ?_, hr'⟩
        rw [Array.getElem?_extract]
        rw [if_pos (by omega)]
        exact hu
    · obtain ⟨u, hu', hr'⟩ := hr off x hx
      refine ⟨u, ?_, x, rfl, hr'⟩
      unfold part
      simp only [Sem.run_bind, run_isAgg hu, Result.andThen_ok, hd, Bool.false_eq_true, if_false, hu', Sem.run_pure]
theorem op_field (E : Env A) (h : Rel E.T w0 F0 X γ φ av w tmps S) {o : Oper} {s : TypeId} {x : Operand} {f : Nat} {ds : List Deferred} (ho : o.op = .field s x f)
    (hk : opK E S.look (evalAV S.fr) k o = some res) : Did E.T w0 F0 X tmps S k res ((execOp (Act.eval ⟨tmps, ds⟩) o).run E.P w) := by
  have hx := h.eval ds x
  unfold opK at hk
  simp only [ho] at hk
  unfold execOp
  simp only [ho]
  cases hf : fieldOff E.P s f with
  | none => simp [hf] at hk
  | some p =>
    obtain ⟨off, t⟩ := p
    simp only [hf] at hk
    generalize evalAV S.fr x = v at hk hx
    generalize Act.eval ⟨tmps, ds⟩ x = u at hx
    cases v <;> simp only at hk <;> try (cases hk; done)
    rename_i cs
    obtain ⟨fs, fx, i, hu, hfx, rfl, rfl, hi, hne, _⟩ := fieldOff_of hf
    simp only [RAV] at hx
    obtain ⟨vs, rfl, hvs⟩ := hx
    unfold partAV at hk
    cases hq : partL E.P fx.type cs fx.offset with
    | none => simp [hq] at hk
    | some p =>
      simp [hq] at hk
      obtain ⟨u, hu', hm⟩ := run_part (w := w) hq (by have := hvs.len; simpa using this) (RAV E.T w av S.look γ) (fun j x hx => by obtain ⟨u, hu, hr⟩ := hvs.at j x hx; exact ⟨u, by simpa using hu, hr⟩)
      refine did_pure (u := u) h hk (by simp [Instr.field, run_underlying hu, hfx, asAgg, hu']) ?_
      obtain ⟨l, b⟩ := p
      cases b with
      | true =>
        obtain ⟨vs, rfl, hl, hx⟩ := hm
        simp only [packL, RAV]
        exact ⟨vs, rfl, RAVs.of_cells (by simpa using hl) (fun j x hj => by simpa using hx j x hj)⟩
      | false =>
        obtain ⟨x, hl, hx⟩ := hm
        simp only at hl
        subst hl
        simpa [packL] using hx
theorem op_indexAddr (E : Env A) (hok : TyOk E.P E.T) (h : Rel E.T w0 F0 X γ φ av w tmps S) {o : Oper} {t : TypeId} {x i : Operand} {ds : List Deferred} (ho : o.op = .indexAddr t x i)
    (hk : opK E S.look (evalAV S.fr) k o = some res) : Did E.T w0 F0 X tmps S k res ((execOp (Act.eval ⟨tmps, ds⟩) o).run E.P w) := by
  have hx := h.eval ds x
  have hi := h.eval ds i
  unfold opK at hk
  simp only [ho] at hk
  unfold execOp
  simp only [ho]
  cases he : elemT E.P t with
  | none => simp [he] at hk
  | some e =>
    simp only [he] at hk
    have hu := under_of_elemT he
    generalize evalAV S.fr i = vi at hk hi
    generalize Act.eval ⟨tmps, ds⟩ i = ui at hi
    generalize evalAV S.fr x = vx at hk hx
    generalize Act.eval ⟨tmps, ds⟩ x = ux at hx
    cases vi <;> (try simp only at hk) <;> try (cases hk; done)
    rename_i di
    cases di <;> simp only at hk <;> try (cases hk; done)
    rename_i ki n
    split at hk
    case isFalse => cases hk
    rename_i hse
    simp only [RAV, DR.int] at hi
    subst hi
    have hrun : ∀ (ad : Option Addr) (len cap : Nat) (b o' : Nat), ad = some ⟨b, o', none⟩ → 0 ≤ n → n < len → (∃ i, E.P.info? e = some i ∧ i.size = E.T.size e) →
        (Instr.indexAt t (.slice ad len cap) (.int ki n)).run E.P w = .ok (.pointer (some ⟨b, o' + n.toNat * E.T.size e, none⟩)) w := by
      rintro ad len cap b o' rfl h0 h1 ⟨i, hi, hs⟩
      simp only [Instr.indexAt, asIntOf, Sem.run_bind, Sem.run_pure, Result.andThen_ok, run_underlying hu, h0, h1, and_self, if_true, run_sizeOf' hi, hs, addr_add]
    have hinfo : 0 < E.T.size e → ∃ i, E.P.info? e = some i ∧ i.size = E.T.size e := by
      intro hp
      cases hi : E.P.info? e with
      | none => rw [hse] at hp; simp [Program.cellsOf, hi] at hp
      | some i => exact ⟨i, rfl, by rw [hse]; simp [Program.cellsOf, hi]⟩
    cases vx <;> (try simp only at hk) <;> try (cases hk; done)
    case own e' tg =>
      have key : ∀ (e'' : Nat) (xs : List (A e'')), (S.look tg = some (.row e'' xs) ∨ S.look tg = some (.frz e'' xs)) →
          (if e' = e ∧ e'' = e then (bif decide (0 ≤ n) && decide (n < xs.length) then k (.elp e tg n.toNat 0) [] [tg] else none) else none) = some res →
          0 < E.T.size e → Did E.T w0 F0 X tmps S k res (((Instr.indexAt t ux (.int ki n)).run E.P w).andThen fun a w => .ok (.value a) w) := by
        intro e'' xs hl hk' hpos
        split at hk'
        case isFalse => cases hk'
        rename_i hee
        obtain ⟨rfl, rfl⟩ := hee
        cases hb : (decide (0 ≤ n) && decide (n < xs.length)) with
        | false => simp [hb] at hk'
        | true =>
          rw [hb] at hk'
          simp only [cond_true] at hk'
          simp only [Bool.and_eq_true, decide_eq_true_eq] at hb
          obtain ⟨h0, h1⟩ := hb
          have hne : xs ≠ [] := by rintro rfl; simp at h1; omega
          have hbase : ∃ b cap, γ tg = .slice (some ⟨b, 0, none⟩) xs.length cap := by
            rcases hl with hl | hl
            · have hr := h.ob tg _ hl
              simp only [ROb, RIV] at hr
              obtain ⟨ob, hφ, hs, hrow⟩ := hr
              cases ob with
              | none => simp only [OwnSl] at hs; exact absurd (List.eq_nil_of_length_eq_zero hs.1) hne
              | some b => simp only [OwnSl] at hs; obtain ⟨cap, c, ty, hv, _⟩ := hs; exact ⟨b, cap, hv⟩
            · have hr := h.ob tg _ hl
              simp only [ROb] at hr
              obtain ⟨_, hd, hb⟩ := hr
              obtain ⟨b, n', cap, hv⟩ := hb.resolve_left hne
              obtain ⟨a, cap', hv', _, _⟩ := hd.sl
              rw [hv] at hv'
              simp only [Value.slice.injEq] at hv'
              exact ⟨b, cap, by rw [hv, hv'.2.1]⟩
          obtain ⟨b, cap, hg⟩ := hbase
          have hux : ux = γ tg := by
            simp only [RAV] at hx
            rcases hl with hl | hl <;> exact (hx _ hl).1
          subst hux
          rw [hg, hrun _ _ _ b 0 rfl h0 h1 (hinfo hpos)]
          refine did_pure (u := .pointer (some ⟨b, 0 + n.toNat * E.T.size _, none⟩)) h hk' rfl ?_
          simp only [RAV]
          intro o' ho'
          refine ⟨⟨b, _, _, hg, by simp⟩, ?_⟩
          rcases hl with hl | hl <;> (rw [hl] at ho'; cases ho'; rfl)
      have hgoal : ∀ r : Did E.T w0 F0 X tmps S k res (((Instr.indexAt t ux (.int ki n)).run E.P w).andThen fun a w => .ok (.value a) w), Did E.T w0 F0 X tmps S k res ((do let a ← Instr.indexAt t ux (.int ki n); pure (Next.value a) : Sem Next).run E.P w) := by
        intro r; simpa using r
      cases hl : S.look tg with
      | none => simp [hl] at hk
      | some ob =>
        rw [hl] at hk
        cases ob <;> simp only at hk <;> try (cases hk; done)
        · exact hgoal (key _ _ (.inl hl) hk (hok.size e))
        · exact hgoal (key _ _ (.inr hl) hk (hok.size e))
    case vw e' tg lo hi =>
      cases hl : S.look tg with
      | none => simp [hl] at hk
      | some ob =>
        rw [hl] at hk
        cases ob <;> simp only at hk <;> try (cases hk; done)
        rename_i e'' xs
        split at hk
        case isFalse => cases hk
        rename_i hee
        obtain ⟨he1, he2⟩ := hee
        subst he1
        subst he2
        cases hb : (decide (0 ≤ n) && (decide (n < hi - lo) && decide (lo + n < xs.length))) with
        | false => simp [hb] at hk
        | true =>
          rw [hb] at hk
          simp only [cond_true] at hk
          simp only [Bool.and_eq_true, decide_eq_true_eq] at hb
          obtain ⟨h0, h1, h2⟩ := hb
          simp only [RAV] at hx
          obtain ⟨⟨b, n', cap, pa, cap', hg, rfl, hlo, hlh, hpa⟩, hkd⟩ := hx _ hl
          obtain rfl := hpa (by omega)
          refine did_pure (u := .pointer (some ⟨b, lo.toNat * E.T.size e'' + n.toNat * E.T.size e'', none⟩)) h hk ?_ ?_
          · have := hrun (some ⟨b, lo.toNat * E.T.size e'', none⟩) (hi - lo).toNat cap' b _ rfl h0 (by omega) (hinfo (hok.size e''))
            simp [this]
          · simp only [RAV]
            intro o' ho'
            rw [hl] at ho'
            cases ho'
            refine ⟨⟨b, _, _, hg, ?_⟩, rfl⟩
            have : (lo + n).toNat = lo.toNat + n.toNat := by omega
            rw [this, Nat.add_mul, Nat.add_zero]
    case d dx =>
      cases dx <;> simp only at hk <;> try (cases hk; done)
      rename_i e' xs
      split at hk
      case isFalse => cases hk
      rename_i hee
      subst hee
      cases hb : decide (0 ≤ n) with
      | false => simp [hb] at hk
      | true =>
        rw [hb] at hk
        simp only [cond_true] at hk
        simp only [decide_eq_true_eq] at hb
        cases hxi : xs[n.toNat]? with
        | none => simp [hxi] at hk
        | some y =>
          simp only [hxi] at hk
          simp only [RAV] at hx
          have hne : xs ≠ [] := by rintro rfl; simp at hxi
          obtain ⟨a, cap, rfl, _, hrow⟩ := hx.sl
          obtain ⟨b, o', c, ty, fz, rfl, hav, hc, hr⟩ := hrow hne
          have hlt : n.toNat < xs.length := by
            rcases Nat.lt_or_ge n.toNat xs.length with h | h
            · exact h
            · rw [List.getElem?_eq_none h] at hxi; cases hxi
          refine did_pure (u := .pointer (some ⟨b, o' + n.toNat * E.T.size e', none⟩)) h hk ?_ ?_
          · have := hrun (some ⟨b, o', none⟩) xs.length cap b o' rfl hb (by omega) (hinfo (hok.size e'))
            simp [this]
          · simp only [RAV]
            refine ⟨b, o' + n.toNat * E.T.size e', c, ty, fz, rfl, hav, hc, fun j d hj => ?_⟩
            exact hr n.toNat y hxi j d hj
end Go.Am
