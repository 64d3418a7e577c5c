/- Part of an abstract machine for this program, with its soundness: AmStep. No condition: lemmas for the claim. -/
import Derived.Test.YtnkoiigdcbjenaaGreatDoorAmOp
import Derived.Orders
set_option linter.unusedVariables false
set_option linter.unusedSimpArgs false
namespace Go.Am
open Go
variable {A : Nat → Type}
variable {T : Ty A} {w0 w w' : World} {F0 : List Nat} {X : Nat → Prop} {γ γ' : Nat → Value} {φ φ' : Nat → List Nat} {av av' : Nat → Prop} {tmps : Array Value} {S S' : St A} {R : Type} {P : Program} {res : R}
def Pins (E : Env A) (us tmps : Array Value) : Prop := ∀ i ∈ E.pin, tmps[i]? = us[i]?
def Rels (E : Env A) (w0 : World) (F0 : List Nat) (X : Nat → Prop) (us : Array Value) (w : World) (tmps : Array Value) (S : St A) : Prop :=
  (∃ γ φ av, Rel E.T w0 F0 X γ φ av w tmps S) ∧ Pins E us tmps
theorem Pins.put {E : Env A} {us : Array Value} {o : Oper} (h : Pins E us tmps) (hp : E.pinned o = false) (v : Value) (ds : List Deferred) : Pins E us (Act.put ⟨tmps, ds⟩ o.dst v).tmps := by
  cases hd : o.dst with
  | none => simpa [Act.put] using h
  | some d =>
    simp only [Act.put]
    intro i hi
    have hne : d ≠ i := by
      intro e
      subst e
      simp [Env.pinned, hd, hi] at hp
    rw [Array.getElem?_setIfInBounds_ne hne]
    exact h i hi
theorem Act.put_mk {ds : List Deferred} (dst : Option Tmp) (v : Value) : Act.put ⟨tmps, ds⟩ dst v = ⟨(Act.put ⟨tmps, ds⟩ dst v).tmps, ds⟩ := by cases dst <;> rfl
theorem Rel.putO (h : Rel T w0 F0 X γ φ av w tmps S) {x : AV A} {v : Value} (dst : Option Nat) (hx : RAV T w av S.look γ x v) (ds : List Deferred) :
    Rel T w0 F0 X γ φ av w (Act.put ⟨tmps, ds⟩ dst v).tmps (S.put dst x) := by
  cases dst with
  | none => exact h
  | some d => exact h.put d hx
theorem behind_eq {ops : List Oper} {i : Nat} {o : Oper} {k : St A → List Nat → Option R} {v : AV A} {u : Upd A} {ts : List Nat} {flt : AV A → Upd A → List Nat → Bool} (h : behind ops i o S flt k v u ts = some res) :
    freshB S u = true ∧ flt v u ts = true ∧ k ((S.upd u).put o.dst v) ts = some res := by
  unfold behind at h
  cases hf : freshB S u && flt v u ts with
  | false => simp [hf] at h
  | true =>
    rw [Bool.and_eq_true] at hf
    refine ⟨hf.1, hf.2, ?_⟩
    simp only [hf.1, hf.2, Bool.and_self, Bool.not_true, cond_false] at h
    split at h
    · rename_i b d _ hd
      rw [hd]
      cases b <;> simpa using h
    · exact h
theorem stepK_sound (E : Env A) (hE : EnvOk E) {us : Array Value} {ops : Array Oper} {i : Nat} {o : Oper} (hi : ops[i]? = some o) {k : St A → List Nat → Option R} (h : Rels E w0 F0 X us w tmps S)
    {flt : AV A → Upd A → List Nat → Bool} (hk : stepK E ops.toList i o S flt k = some res) {Q : Exit → Act → World → Prop} {K : Act → World → Prop}
    (hn : ∀ S' ts tmps' w', k S' ts = some res → Rels E w0 F0 X us w' tmps' S' → K ⟨tmps', []⟩ w') : wpOp E.P ops Q i K ⟨tmps, []⟩ w := by
  obtain ⟨⟨γ, φ, av, hr⟩, hp⟩ := h
  unfold wpOp
  simp only [hi]
  unfold stepK at hk
  cases hpin : E.pinned o with
  | true => simp [hpin] at hk
  | false =>
    simp only [hpin, cond_false] at hk
    have main : opK E S.look (evalAV S.fr) (behind ops.toList i o S flt k) o = some res → Oper.wp E.P o ⟨tmps, []⟩ w K Q := by
      intro hk
      refine op_wp E hE hr hk (fun v u ts h => (behind_eq h).1) ?_
      rintro u w' ⟨v, upd, ts, γ', φ', av', h1, h2, h3⟩
      obtain ⟨h4, _, h5⟩ := behind_eq h1
      rw [Act.put_mk]
      exact hn _ _ _ _ h5 ⟨⟨γ', φ', av', h2.putO o.dst h3 []⟩, hp.put hpin u []⟩
    have skip : behind ops.toList i o S flt k (.tup []) [] [] = some res → K (Act.put ⟨tmps, []⟩ o.dst undef) w := by
      intro hk
      obtain ⟨_, _, h5⟩ := behind_eq hk
      rw [Act.put_mk]
      exact hn _ _ _ _ h5 ⟨⟨γ, φ, av, hr.putO o.dst (x := .tup []) (by simp only [RAV, RAVs]; exact ⟨_, rfl, rfl⟩) []⟩, hp.put hpin undef []⟩
    cases hg : o.guard with
    | none =>
      simp only [hg] at hk
      have : Region.wanted o (yielded ops tmps) = true := by simp [Region.wanted, hg]
      simp only [this, if_true]
      exact .inl (main hk)
    | some g =>
      obtain ⟨j, want⟩ := g
      simp only [hg] at hk
      cases hd : (ops.toList[j]?).bind (·.dst) with
      | none => rw [hd] at hk; cases hk
      | some d =>
        rw [hd] at hk
        simp only at hk
        have hd' : (ops[j]?).bind (·.dst) = some d := by simpa using hd
        cases hv : (S.fr[d]?).getD .undef with
        | d y =>
          rw [hv] at hk
          cases y <;> (try simp only at hk) <;> try (cases hk; done)
          rename_i b
          have hslot : tmps[d]? = some (.bool b) := by
            cases hx : S.fr[d]? with
            | none => simp [hx] at hv
            | some x =>
              simp [hx] at hv
              subst hv
              obtain ⟨u, hu, hru⟩ := hr.fr.get hx
              simp only [RAV, DR.bool] at hru
              simpa [hru] using hu
          have hy : yielded ops tmps j = some b := by simp [yielded, hd', hslot]
          have hw : Region.wanted o (yielded ops tmps) = (b == want) := by
            simp only [Region.wanted, hg, hy]
            cases b <;> cases want <;> rfl
          simp only [hw]
          cases hbw : b == want with
          | true =>
            simp only [hbw, cond_true] at hk
            simp only [if_true]
            exact .inl (main hk)
          | false =>
            simp only [hbw, cond_false] at hk
            simp only [Bool.false_eq_true, if_false]
            exact skip hk
        | tup cs =>
          rw [hv] at hk
          cases cs with
          | cons c cs => simp at hk
          | nil =>
            simp only at hk
            have hslot : tmps[d]? = some (.tuple #[]) := by
              cases hx : S.fr[d]? with
              | none => simp [hx] at hv
              | some x =>
                simp [hx] at hv
                subst hv
                obtain ⟨u, hu, hru⟩ := hr.fr.get hx
                simp only [RAV, RAVs] at hru
                obtain ⟨vs, rfl, hvs⟩ := hru
                obtain rfl : vs = #[] := Array.toList_inj.1 hvs
                simpa using hu
            have hy : yielded ops tmps j = none := by simp [yielded, hd', hslot]
            have hw : Region.wanted o (yielded ops tmps) = false := by
              simp only [Region.wanted, hg, hy]
              rfl
            simp only [hw, Bool.false_eq_true, if_false]
            exact skip hk
        | _ => rw [hv] at hk; simp at hk
theorem regK_sound (E : Env A) (hE : EnvOk E) {us : Array Value} {ops : Array Oper} {Q : Exit → Act → World → Prop} : ∀ {l : List (Nat × Oper)} {k : St A → Option R} {S : St A} {tmps : Array Value} {w : World},
    (∀ p ∈ l, ops[p.1]? = some p.2) → Rels E w0 F0 X us w tmps S → regK E ops.toList l S k = some res →
    (∀ S' tmps' w', k S' = some res → Rels E w0 F0 X us w' tmps' S' → Q .normal ⟨tmps', []⟩ w') → wpOps E.P ops Q (l.map (·.1)) ⟨tmps, []⟩ w
  | [], k, S, tmps, w, hl, h, hk, hq => by
    simp only [regK] at hk
    simpa [wpOps] using hq _ _ _ hk h
  | (i, o) :: r, k, S, tmps, w, hl, h, hk, hq => by
    simp only [regK] at hk
    simp only [List.map_cons]
    rw [wpOps_cons]
    exact stepK_sound E hE (hl (i, o) (by simp)) h hk (fun S' ts tmps' w' h1 h2 => regK_sound E hE (fun p hp => hl p (by simp [hp])) h2 h1 hq)
end Go.Am
