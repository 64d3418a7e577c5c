/- Part of an abstract machine for this program, with its soundness: AmCall2. No condition: lemmas for the claim. -/
import Derived.Test.YtnkoiigdcbjenaaGreatDoorAmCall
set_option linter.unusedVariables false
set_option linter.unusedSimpArgs false
namespace Go.Am
open Go
variable {A : Nat → Type}
variable {T : Ty A} {w0 w w' : World} {F0 : List Nat} {X : Nat → Prop} {γ γ' : Nat → Value} {φ φ' : Nat → List Nat} {av av' : Nat → Prop} {tmps : Array Value} {S S' : St A} {R : Type} {P : Program}
variable {k : AV A → Upd A → List Nat → Option R} {res : R}
theorem putIV_tags : ∀ n,
    (∀ (iv : IV A) fs x u fs', putIV n iv fs = some (x, u, fs') → ∃ used, fs = used ++ fs' ∧ (∀ t, occAV t x = true → t ∈ used) ∧ (∀ y ∈ u, ∀ t, occOb t y.2 = true → t ∈ used) ∧ (∀ y ∈ u, y.1 ∈ used)) ∧
    (∀ (ivs : List (IV A)) fs xs u fs', putIVs n ivs fs = some (xs, u, fs') → ∃ used, fs = used ++ fs' ∧ (∀ t, occAVs t xs = true → t ∈ used) ∧ (∀ y ∈ u, ∀ t, occOb t y.2 = true → t ∈ used) ∧ (∀ y ∈ u, y.1 ∈ used)) := by
  intro n
  induction n with
  | zero => exact ⟨fun iv fs x u fs' h => by simp [putIV] at h, fun ivs fs xs u fs' h => by simp [putIVs] at h⟩
  | succ n ih =>
    refine ⟨fun iv fs x u fs' h => ?_, fun ivs fs xs u fs' h => ?_⟩
    · cases iv with
      | undef => simp [putIV] at h; obtain ⟨rfl, rfl, rfl⟩ := h; exact ⟨[], by simp [occAV]⟩
      | d y => simp [putIV] at h; obtain ⟨rfl, rfl, rfl⟩ := h; exact ⟨[], by simp [occAV]⟩
      | agg ys =>
        simp only [putIV] at h
        cases hc : putIVs n ys fs with
        | none => simp [hc] at h
        | some p =>
          obtain ⟨cs, u', f'⟩ := p
          simp [hc] at h
          obtain ⟨rfl, rfl, rfl⟩ := h
          obtain ⟨used, h1, h2, h3, h4⟩ := ih.2 _ _ _ _ _ hc
          exact ⟨used, h1, fun t ht => h2 t (by simpa [occAV] using ht), h3, h4⟩
      | tup ys =>
        simp only [putIV] at h
        cases hc : putIVs n ys fs with
        | none => simp [hc] at h
        | some p =>
          obtain ⟨cs, u', f'⟩ := p
          simp [hc] at h
          obtain ⟨rfl, rfl, rfl⟩ := h
          obtain ⟨used, h1, h2, h3, h4⟩ := ih.2 _ _ _ _ _ hc
          exact ⟨used, h1, fun t ht => h2 t (by simpa [occAV] using ht), h3, h4⟩
      | arr e ys =>
        cases fs with
        | nil => simp [putIV] at h
        | cons t fs =>
          simp [putIV] at h
          obtain ⟨rfl, rfl, rfl⟩ := h
          exact ⟨[t], by simp, fun t' ht' => by simp [occAV] at ht'; simp [ht'], fun y hy t' ht' => by simp at hy; subst hy; simp [occOb] at ht', fun y hy => by simp at hy; subst hy; simp⟩
      | box ys =>
        cases fs with
        | nil => simp [putIV] at h
        | cons t fs =>
          simp only [putIV] at h
          cases hc : putIVs n ys fs with
          | none => simp [hc] at h
          | some p =>
            obtain ⟨cs, u', f'⟩ := p
            simp [hc] at h
            obtain ⟨rfl, rfl, rfl⟩ := h
            obtain ⟨used, h1, h2, h3, h4⟩ := ih.2 _ _ _ _ _ hc
            refine ⟨t :: used, by simp [h1], fun t' ht' => by simp [occAV] at ht'; simp [ht'], fun y hy t' ht' => ?_, fun y hy => ?_⟩
            · rcases List.mem_append.1 hy with hy | hy
              · exact List.mem_cons_of_mem _ (h3 y hy t' ht')
              · simp at hy; subst hy; exact List.mem_cons_of_mem _ (h2 t' (by simpa [occOb] using ht'))
            · rcases List.mem_append.1 hy with hy | hy
              · exact List.mem_cons_of_mem _ (h4 y hy)
              · simp at hy; subst hy; simp
      | fn f ys =>
        simp only [putIV] at h
        cases hc : putIVs n ys fs with
        | none => simp [hc] at h
        | some p =>
          obtain ⟨cs, u', f'⟩ := p
          simp [hc] at h
          obtain ⟨rfl, rfl, rfl⟩ := h
          obtain ⟨used, h1, h2, h3, h4⟩ := ih.2 _ _ _ _ _ hc
          exact ⟨used, h1, fun t ht => h2 t (by simpa [occAV] using ht), h3, h4⟩
      | mp k e m =>
        cases fs with
        | nil => simp [putIV] at h
        | cons t fs =>
          simp [putIV] at h
          obtain ⟨rfl, rfl, rfl⟩ := h
          exact ⟨[t], by simp, fun t' ht' => by simp [occAV] at ht'; simp [ht'], fun y hy t' ht' => by simp at hy; subst hy; simp [occOb] at ht', fun y hy => by simp at hy; subst hy; simp⟩
    · cases ivs with
      | nil => simp [putIVs] at h; obtain ⟨rfl, rfl, rfl⟩ := h; exact ⟨[], by simp [occAVs]⟩
      | cons iv ivs =>
        simp only [putIVs] at h
        cases hc : putIV n iv fs with
        | none => simp [hc] at h
        | some p =>
          obtain ⟨c, u1, f1⟩ := p
          cases hc2 : putIVs n ivs f1 with
          | none => simp [hc, hc2] at h
          | some q =>
            obtain ⟨cs, u2, f2⟩ := q
            simp [hc, hc2] at h
            obtain ⟨rfl, rfl, rfl⟩ := h
            obtain ⟨us1, a1, a2, a3, a4⟩ := ih.1 _ _ _ _ _ hc
            obtain ⟨us2, b1, b2, b3, b4⟩ := ih.2 _ _ _ _ _ hc2
            refine ⟨us1 ++ us2, by rw [a1, b1, List.append_assoc], fun t ht => ?_, fun y hy t ht => ?_, fun y hy => ?_⟩
            · simp only [occAVs, Bool.or_eq_true] at ht
              exact List.mem_append.2 (ht.imp (a2 t) (b2 t))
            · exact List.mem_append.2 ((List.mem_append.1 hy).imp (fun h => a3 y h t ht) (fun h => b3 y h t ht))
            · exact List.mem_append.2 ((List.mem_append.1 hy).imp (a4 y) (b4 y))
structure Own (w0 : World) (F0 : List Nat) (X : Nat → Prop) (φ : Nat → List Nat) (av : Nat → Prop) (w : World) (S : St A) (F : List Nat) : Prop where
  av : ∀ b ∈ F, av b
  x : ∀ b ∈ F, ¬ X b
  φ : ∀ b ∈ F, ∀ t o, S.look t = some o → b ∉ φ t
  fp : ∀ b ∈ F, (b ∈ F0 ∨ w0.heap.size ≤ b) ∧ b < w.heap.size
theorem Rel.ins (h : Rel T w0 F0 X γ φ av w tmps S) {t : Nat} (hlt : t < S.st.length) (o : Ob A) (v : Value) (Fp : List Nat)
    (hwas : (S.look t = none ∧ occSt t S = false) ∨ (∃ kd, S.look t = some (.gone kd) ∧ o.kind = kd ∧ v = γ t)) (hnd : Fp.Nodup) (hown : Own w0 F0 X φ av w S Fp)
    (hob : ∀ γ' φ', γ' t = v → φ' t = Fp → (∀ u, u ≠ t → γ' u = γ u) → (∀ u, occSt u S = true → Compat S.look γ (St.look { S with st := S.st.set t (some o) }) γ' u) → ROb T w av (St.look { S with st := S.st.set t (some o) }) γ' φ' t o) :
    ∃ γ' φ', Rel T w0 F0 X γ' φ' av w tmps { S with st := S.st.set t (some o) } ∧ γ' t = v ∧ φ' t = Fp ∧ (∀ u, u ≠ t → γ' u = γ u) ∧ (∀ u, u ≠ t → φ' u = φ u) ∧ (∀ u, occSt u S = true → Compat S.look γ (St.look { S with st := S.st.set t (some o) }) γ' u) := by
  have hl : ∀ u, St.look { S with st := S.st.set t (some o) } u = if u = t then some o else S.look u := by
    intro u; rw [look_set]; by_cases hu : u = t <;> simp [hu, hlt]
  let γ' : Nat → Value := fun u => if u = t then v else γ u
  let φ' : Nat → List Nat := fun u => if u = t then Fp else φ u
  have hγt : γ' t = v := by simp [γ']
  have hφt : φ' t = Fp := by simp [φ']
  have hγn : ∀ u, u ≠ t → γ' u = γ u := fun u hu => by simp [γ', hu]
  have hφn : ∀ u, u ≠ t → φ' u = φ u := fun u hu => by simp [φ', hu]
  have hcompat : ∀ u, occSt u S = true → Compat S.look γ (St.look { S with st := S.st.set t (some o) }) γ' u := by
    intro u hu o' ho'
    rw [hl] at ho'
    by_cases hut : u = t
    · subst hut
      rw [if_pos rfl] at ho'
      cases ho'
      rcases hwas with ⟨_, ho⟩ | ⟨kd, h1, h2, h3⟩
      · rw [ho] at hu; cases hu
      · exact ⟨_, h1, by rw [hγt, h3], by rw [h2]; rfl⟩
    · rw [if_neg hut] at ho'
      exact ⟨o', ho', hγn u hut, rfl⟩
  have hφold : ∀ o', S.look t = some o' → φ t = [] := by
    intro o' ho'
    rcases hwas with ⟨hn, _⟩ | ⟨kd, h1, _, _⟩
    · rw [hn] at ho'; cases ho'
    · have := h.ob t _ h1
      simp only [ROb] at this
      exact this.1
  refine ⟨γ', φ', ?_, hγt, hφt, hγn, hφn, hcompat⟩
  refine h.upd (fun u => u = t) rfl (Pres.refl _ _) ?_ (fun _ _ _ _ _ _ => rfl) (fun u _ hu => hcompat u hu) ?_ ?_ ?_ ?_ h.avlt ?_ (Nat.le_refl _) h.left
  · intro u hu; exact ⟨by rw [hl, if_neg hu], hγn u hu, hφn u hu⟩
  · intro u o' hu ho'
    subst hu
    rw [hl, if_pos rfl] at ho'
    cases ho'
    exact hob γ' φ' hγt hφt hγn hcompat
  · intro u o' hu _; subst hu; rw [hφt]; exact hnd
  · intro u o' u' o'' hu _ ho'' hne b hb hb'
    subst hu
    rw [hl, if_neg (Ne.symm hne)] at ho''
    rw [hφt] at hb
    rw [hφn u' (Ne.symm hne)] at hb'
    exact hown.φ b hb u' o'' ho'' hb'
  · rintro b (hx | ⟨u, o', ho', hm⟩)
    · exact h.avs b (.inl hx)
    · by_cases hu : u = t
      · subst hu; rw [hφt] at hm; exact hown.av b hm
      · rw [hl, if_neg hu] at ho'; rw [hφn u hu] at hm
        exact h.avs b (.inr ⟨u, o', ho', hm⟩)
  · intro u o' hu _ b hb
    subst hu
    rw [hφt] at hb
    exact hown.fp b hb
theorem occSt_upd' {t : Nat} : ∀ {u : Upd A} {S : St A}, occSt t (S.upd u) = true → occSt t S = true ∨ ∃ y ∈ u, occOb t y.2 = true
  | [], S, h => .inl h
  | (i, o) :: u, S, h => by
    simp only [St.upd] at h
    rcases occSt_upd' h with h | ⟨y, hy, h⟩
    · cases ho : occOb t o with
      | true => exact .inr ⟨(i, o), by simp, ho⟩
      | false =>
        unfold occSt at h ⊢
        rw [Bool.or_eq_true] at h ⊢
        exact .inl (h.imp id (any_set (i := i) ho))
    · exact .inr ⟨y, by simp [hy], h⟩
theorem look_upd_other {t : Nat} : ∀ {u : Upd A} {S : St A}, (∀ y ∈ u, y.1 ≠ t) → (S.upd u).look t = S.look t
  | [], S, h => rfl
  | (i, o) :: u, S, h => by
    simp only [St.upd]
    rw [look_upd_other (fun y hy => h y (by simp [hy])), look_set, if_neg (fun hc => h (i, o) (by simp) hc.1.symm)]
theorem nodup_append {l m : List Nat} (h : (l ++ m).Nodup) : l.Nodup ∧ m.Nodup ∧ ∀ x ∈ l, x ∉ m := by
  rw [List.nodup_append] at h
  exact ⟨h.1, h.2.1, fun x hx hm => h.2.2 x hx x hm rfl⟩
end Go.Am
