/- Part of an abstract machine for this program, with its soundness: AmOps2. No condition: lemmas for the claim. -/
import Derived.Test.YtnkoiigdcbjenaaGreatDoorAmOps
set_option linter.unusedVariables false
set_option linter.unusedSimpArgs false
namespace Go.Am
open Go
variable {A : Nat → Type}
variable {T : Ty A} {w0 w w' : World} {F0 : List Nat} {X : Nat → Prop} {γ γ' : Nat → Value} {φ φ' : Nat → List Nat} {av av' : Nat → Prop} {tmps : Array Value} {S S' : St A} {R : Type} {P : Program}
variable {k : AV A → Upd A → List Nat → Option R} {res : R}
theorem enc_lt (hok : TyOk P T) {e : Nat} {x : A e} {j : Nat} {d : D A} (h : (T.enc e x)[j]? = some d) : j < T.size e := by
  rw [← hok.len e x]
  rcases Nat.lt_or_ge j (T.enc e x).length with h' | h'
  · exact h'
  · rw [List.getElem?_eq_none h'] at h; cases h
theorem decs_row (hok : TyOk P T) {e : Nat} {c : Array Value} : ∀ (n o : Nat) {ds : List (D A)} {xs : List (A e)}, decs T e (chunk (T.size e) n ds) = some xs →
    (∀ (j : Nat) d, j < n * T.size e → ds[j]? = some d → ∃ v, c[o + j]? = some v ∧ DR T w av d v) → Row T w av c o e xs ∧ xs.length = n
  | 0, o, ds, xs, h, hr => by
    simp [chunk, decs] at h
    subst h
    exact ⟨fun i x hi => by simp at hi, rfl⟩
  | n + 1, o, ds, xs, h, hr => by
    simp only [chunk, decs] at h
    cases h1 : T.dec e (ds.take (T.size e)) with
    | none => simp [h1] at h
    | some x =>
      cases h2 : decs T e (chunk (T.size e) n (ds.drop (T.size e))) with
      | none => simp [h1, h2] at h
      | some ys =>
        simp [h1, h2] at h
        subst h
        obtain ⟨hl, hrep⟩ := hok.dec e _ _ h1
        obtain ⟨ih, ihl⟩ := decs_row hok n (o + T.size e) h2 (fun j d hj hd => by
          rw [List.getElem?_drop] at hd
          obtain ⟨v, hv, hdr⟩ := hr (T.size e + j) d (by rw [Nat.add_mul, Nat.one_mul]; omega) hd
          exact ⟨v, by rw [Nat.add_assoc]; exact hv, hdr⟩)
        refine ⟨fun i y hy j d hd => ?_, by simp [ihl]⟩
        have hj := enc_lt hok hd
        cases i with
        | zero =>
          simp at hy
          subst hy
          have hex : ∃ d0, (ds.take (T.size e))[j]? = some d0 := by
            exact ⟨_, List.getElem?_eq_getElem (by rw [hl]; exact hj)⟩
          obtain ⟨d0, hd0⟩ := hex
          obtain ⟨d', hd', himp⟩ := hrep w av j d0 hd0
          rw [hd] at hd'
          cases hd'
          rw [List.getElem?_take_of_lt hj] at hd0
          obtain ⟨v, hv, hdr⟩ := hr j d0 (by rw [Nat.add_mul, Nat.one_mul]; omega) hd0
          exact ⟨v, by simpa using hv, himp v hdr⟩
        | succ i =>
          obtain ⟨u, hu, hdr⟩ := ih i y (by simpa using hy) j d hd
          refine ⟨u, ?_, hdr⟩
          rw [show o + (i + 1) * T.size e + j = o + T.size e + i * T.size e + j from by rw [Nat.add_mul, Nat.one_mul]; omega]
          exact hu
theorem range_flat {α : Type} [Inhabited α] (l : List α) (hl : 0 < l.length) : ∀ n, (List.range (n * l.length)).map (fun i => l.toArray[i % l.length]!) = (List.replicate n l).flatten
  | 0 => by simp
  | n + 1 => by
    rw [show (n + 1) * l.length = l.length + n * l.length from by rw [Nat.add_mul, Nat.one_mul]; omega, List.range_add, List.map_append, List.map_map, List.replicate_succ, List.flatten_cons]
    congr 1
    · apply List.ext_getElem
      · simp
      · intro i h1 h2
        simp at h1
        simp [Nat.mod_eq_of_lt h1, h1]
    · rw [← range_flat l hl n]
      apply List.map_congr_left
      intro i _
      simp
theorem toD_occ {look : Nat → Option (Ob A)} {x : AV A} {d : D A} {u : Upd A} {ts : List Nat} (h : toD look x = some (d, u, ts)) : ∀ y ∈ u, ∀ t, occOb t y.2 = false := by
  cases x <;> simp only [toD] at h <;> try (cases h; done)
  case d y => simp at h; obtain ⟨_, rfl, _⟩ := h; simp
  case own e t =>
    cases hl : look t with
    | none => simp [hl] at h
    | some o =>
      rw [hl] at h
      cases o <;> simp only at h <;> try (cases h; done)
      all_goals
        simp only [Option.some.injEq, Prod.mk.injEq] at h
        obtain ⟨_, rfl, _⟩ := h
        intro y hy t
        simp at hy
        try (subst hy; rfl)
theorem toDs_occ : ∀ {xs : List (AV A)} {look : Nat → Option (Ob A)} {ds : List (D A)} {u : Upd A} {ts : List Nat}, toDs look xs = some (ds, u, ts) → ∀ y ∈ u, ∀ t, occOb t y.2 = false
  | [], look, ds, u, ts, h => by simp [toDs] at h; obtain ⟨_, rfl, _⟩ := h; simp
  | x :: xs, look, ds, u, ts, h => by
    simp only [toDs] at h
    cases h1 : toD look x with
    | none => simp [h1] at h
    | some p =>
      obtain ⟨d, u1, t1⟩ := p
      cases h2 : toDs (lookU look u1) xs with
      | none => simp [h1, h2] at h
      | some q =>
        obtain ⟨ds', u2, t2⟩ := q
        simp [h1, h2] at h
        obtain ⟨_, rfl, _⟩ := h
        intro y hy t
        rcases List.mem_append.1 hy with hy | hy
        · exact toD_occ h1 y hy t
        · exact toDs_occ h2 y hy t
theorem any_set {t i : Nat} {o : Option (Ob A)} (ho : occOb t o = false) : ∀ {l : List (Option (Ob A))} {i : Nat}, (l.set i o).any (occOb t) = true → l.any (occOb t) = true
  | [], i, h => by simp at h
  | x :: l, 0, h => by simp only [List.set_cons_zero, List.any_cons, ho, Bool.false_or] at h; simp [h]
  | x :: l, i + 1, h => by
    simp only [List.set_cons_succ, List.any_cons, Bool.or_eq_true] at h ⊢
    exact h.imp id (any_set (i := i) ho)
theorem occSt_upd {t : Nat} : ∀ {u : Upd A} {S : St A}, (∀ y ∈ u, occOb t y.2 = false) → occSt t (S.upd u) = true → occSt t S = true
  | [], S, hu, h => h
  | (i, o) :: u, S, hu, h => by
    simp only [St.upd] at h
    have := occSt_upd (fun y hy => hu y (by simp [hy])) h
    unfold occSt at this ⊢
    rw [Bool.or_eq_true] at this ⊢
    exact this.imp id (any_set (i := i) (hu (i, o) (by simp)))
theorem fillS_len {look : Nat → Option (Ob A)} {place : Nat → Option (Nat × Nat)} : ∀ {parts : List (Nat × AV A)} {cs cs' : List (AV A)}, fillS look place cs parts = some cs' → cs'.length = cs.length
  | [], cs, cs', h => by simp [fillS] at h; rw [h]
  | (i, x) :: parts, cs, cs', h => by
    simp only [fillS] at h
    cases hp : place i with
    | none => simp [hp] at h
    | some p =>
      obtain ⟨off, size⟩ := p
      simp only [hp] at h
      split at h
      · rename_i hc
        rw [fillS_len h, splice_len _ _ _ (by omega)]
      · cases h
theorem under_of_elemT {t e : Nat} (h : elemT P t = some e) : P.underlying t = some (.slice e) := by
  unfold elemT at h
  split at h <;> simp_all
theorem op_buildSlice (E : Env A) (hok : TyOk E.P E.T) (h : Rel E.T w0 F0 X γ φ av w tmps S) {o : Oper} {t : TypeId} {n : Nat} {ps : Array (Nat × Operand)} {ds : List Deferred} (ho : o.op = .buildSlice t n ps)
    (hk : opK E S.look (evalAV S.fr) k o = some res) (hf : ∀ v u ts, k v u ts = some res → freshB S u = true) :
    Did E.T w0 F0 X tmps S k res ((execOp (Act.eval ⟨tmps, ds⟩) o).run E.P w) := by
  unfold opK at hk
  simp only [ho] at hk
  cases he : elemT E.P t with
  | none => simp [he] at hk
  | some e =>
    cases ht : newTag S.look (E.tags o) with
    | none => simp [he, ht] at hk
    | some tag =>
      simp only [he, ht] at hk
      split at hk
      case isFalse => cases hk
      rename_i hse
      cases hz : zeros (A := A) E.P e with
      | none => simp [hz] at hk
      | some zs =>
        simp only [hz] at hk
        split at hk
        case isFalse => cases hk
        rename_i hzl
        obtain ⟨hzl, hroom⟩ := hzl
        obtain ⟨z, hrun, rfl⟩ := zeros_sound (w := w) hz
        have hzsz : z.cells.size = E.P.cellsOf e := by simpa using hzl
        have hpos : 0 < E.P.cellsOf e := by rw [← hse]; exact hok.size e
        cases hfl : fillS S.look (fun i => some (i * E.P.cellsOf e, E.P.cellsOf e)) (List.replicate n (z.cells.toList.map const1)).flatten (ps.toList.map fun p => (p.1, evalAV S.fr p.2)) with
        | none => simp [hfl] at hk
        | some cs =>
          simp only [hfl] at hk
          cases htd : toDs S.look cs with
          | none => simp [htd] at hk
          | some q =>
            obtain ⟨ds', u, ts⟩ := q
            simp only [htd] at hk
            cases hdc : decs E.T e (chunk (E.P.cellsOf e) n ds') with
            | none => simp [hdc] at hk
            | some xs =>
              simp only [hdc] at hk
              have hparts : ∀ (j : Nat) p, (ps.toList.map fun p => (p.1, evalAV S.fr p.2))[j]? = some p →
                  ∃ q, (ps.map fun (i, x) => (i, Act.eval ⟨tmps, ds⟩ x)).toList[j]? = some q ∧ q.1 = p.1 ∧ RAV E.T w av S.look γ p.2 q.2 := by
                intro j p hp
                simp only [List.getElem?_map, Option.map_eq_some_iff] at hp
                obtain ⟨a, ha, rfl⟩ := hp
                exact ⟨(a.1, Act.eval ⟨tmps, ds⟩ a.2), by simp at ha; simp [ha], rfl, h.eval ds a.2⟩
              have hcells0 : ((Array.range (n * E.P.cellsOf e)).map (fun i => z.cells[i % z.cells.size]!)).toList = (List.replicate n z.cells.toList).flatten := by
                have := range_flat z.cells.toList (by simp; omega) n
                simp only [Array.length_toList, Array.toArray_toList, hzsz] at this ⊢
                simpa using this
              obtain ⟨cells, hfill, hr⟩ := h.fill (cells := (Array.range (n * E.P.cellsOf e)).map (fun i => z.cells[i % z.cells.size]!)) (by simp) hparts
                (by rw [hcells0, ← List.map_replicate, ← List.map_flatten]; exact RAVs.of_const1 _ _) hfl
              obtain ⟨φ1, av1, hR1, hlen, hd1, hn1, hl1, hk1, ho1, hs1⟩ := toDs_sound h hr htd
              have hno : (S.upd u).look tag = none := by
                have := hs1 tag
                rw [newTag_of ht] at this
                simpa using this
              obtain ⟨hlt, hocc⟩ := fresh_of (hf _ _ _ hk) (List.mem_append.2 (.inr (List.mem_singleton.2 rfl))) (newTag_of ht)
              have hocc' : occSt tag (S.upd u) = false := by
                cases ho : occSt tag (S.upd u) with
                | false => rfl
                | true => rw [occSt_upd (fun y hy => toDs_occ htd y hy tag) ho] at hocc; cases hocc
              rw [← hse] at hdc
              obtain ⟨hrow, hxl⟩ := decs_row (c := cells) hok n 0 hdc (fun j d hj hd => by
                obtain ⟨v, hv, hdr⟩ := hd1 j d hd
                exact ⟨v, by simpa using hv, hdr⟩)
              have hcsz : n * E.T.size e ≤ cells.size := by
                have h1 := hr.len
                have h2 := fillS_len hfl
                simp at h1 h2
                rw [h1, h2, hse, hzsz]
                exact Nat.le_refl _
              obtain ⟨γ', φ', av', hR, hv⟩ := hR1.new_row (w' := w.alloc (.cells cells e)) (by rw [upd_len]; exact hlt) hno hocc' e hrow (Nat.le_of_eq hxl) hcsz rfl rfl ⟨rfl, fun _ => Nat.le_refl _⟩ rfl
              refine ⟨.slice (some ⟨w.heap.size, 0, none⟩) n n, _, .inl ?_, _, _, _, γ', φ', av', hk, by rw [upd_append]; exact hR, by rw [upd_append]; rw [hxl] at hv; exact hv⟩
              have hu := under_of_elemT he
              obtain ⟨ie, hie⟩ : ∃ ie, E.P.info? e = some ie := by
                cases hi : E.P.info? e with
                | none => simp [Program.cellsOf, hi] at hpos
                | some i => exact ⟨i, rfl⟩
              have hsz : ie.size = E.P.cellsOf e := by simp [Program.cellsOf, hie]
              have hgt : ¬ (n * E.P.cellsOf e > 2 ^ 24) := by omega
              simp only [execOp, ho, Instr.buildSlice, Sem.run_bind, run_underlying hu, Result.andThen_ok, run_sizeOf' hie, hsz, hgt, if_false, Sem.run_pure]
              by_cases hz0 : n * E.P.cellsOf e = 0
              · have harr : ∀ f : Nat → Value, (Array.range (n * E.P.cellsOf e)).map f = #[] := by intro f; simp [hz0]
                simp only [harr] at hfill ⊢
                simp only [hz0, if_true, Sem.run_pure, Result.andThen_ok, hfill]
                simp [newRow]
              · simp only [hz0, if_false, Sem.run_bind, hrun, Sem.run_pure, Result.andThen_ok, hfill]
                simp [newRow]
end Go.Am
