/- Part of an abstract machine for this program, with its soundness: AmCall4. No condition: lemmas for the claim. -/
import Derived.Test.YtnkoiigdcbjenaaGreatDoorAmCall3
set_option linter.unusedVariables false
set_option linter.unusedSimpArgs false
namespace Go.Am
open Go
variable {A : Nat → Type}
variable {T : Ty A} {w0 w w' : World} {F0 : List Nat} {X : Nat → Prop} {γ γ' : Nat → Value} {φ φ' : Nat → List Nat} {av av' : Nat → Prop} {tmps : Array Value} {S S' : St A} {R : Type} {P : Program}
theorem Only.mono {used used' F F' : List Nat} (h : Only S S' γ γ' φ φ' used F) (hu : ∀ t, t ∈ used → t ∈ used') (hn : ∀ t, t ∈ used' → t ∈ used) (hf : ∀ b ∈ F, b ∈ F') : Only S S' γ γ' φ φ' used' F' :=
  ⟨fun t ht => h.out t (fun hm => ht (hu t hm)), fun t ht b hb => hf b (h.inn t (hn t ht) b hb), h.len⟩
theorem Compat.trans' {look look' look'' : Nat → Option (Ob A)} {γ γ' γ'' : Nat → Value} {t : Nat} (h : Compat look γ look' γ' t) (h' : Compat look' γ' look'' γ'' t) : Compat look γ look'' γ'' t := by
  intro o ho
  obtain ⟨o1, h1, h2, h3⟩ := h' o ho
  obtain ⟨o2, h4, h5, h6⟩ := h o1 h1
  exact ⟨o2, h4, h2.trans h5, h3.trans h6⟩
theorem back_one (hr : Rel T w0 F0 X γ φ av w tmps S) {t : Nat} {o : Ob A} {kd : Nat × Nat} (hg : S.look t = some (.gone kd)) (hlt : t < S.st.length) (hk : o.kind = kd) {F : List Nat} (hnd : F.Nodup) (hown : Own w0 F0 X φ av w S F)
    (hob : ∀ γ' φ', γ' t = γ t → φ' t = F → (∀ u, u ≠ t → γ' u = γ u ∧ St.look { S with st := S.st.set t (some o) } u = S.look u) → ROb T w av (St.look { S with st := S.st.set t (some o) }) γ' φ' t o) :
    ∃ γ' φ', Rel T w0 F0 X γ' φ' av w tmps (S.upd [(t, some o)]) ∧ Only S (S.upd [(t, some o)]) γ γ' φ φ' [t] F ∧ (∀ u, Compat S.look γ (S.upd [(t, some o)]).look γ' u) := by
  obtain ⟨γ', φ', a1, a2, a3, a4⟩ := hr.ins' hlt o (γ t) F (.inr ⟨kd, hg, hk, rfl⟩) hnd hown hob
  refine ⟨γ', φ', a1, a4, fun u => ?_⟩
  by_cases hu : u = t
  · subst hu
    intro o' ho'
    have ho2 : St.look { S with st := S.st.set u (some o) } u = some o' := ho'
    rw [a3] at ho2; cases ho2
    exact ⟨_, hg, a2, hk⟩
  · have := a4.out u (by simpa using hu)
    exact Compat.same this.1 this.2.1
theorem back_tags : ∀ n,
    (∀ (wr : Bool) (v : AV A) iv fs u fs', backRoot wr n v iv fs = some (u, fs') → (∀ y ∈ u, y.1 ∈ fs ∨ occAV y.1 v = true) ∧ ∀ t ∈ fs', t ∈ fs) ∧
    (∀ (wr : Nat → Bool) (j : Nat) (vs : List (AV A)) ivs fs u fs', backRoots wr j n vs ivs fs = some (u, fs') → (∀ y ∈ u, y.1 ∈ fs ∨ occAVs y.1 vs = true) ∧ ∀ t ∈ fs', t ∈ fs) := by
  intro n
  induction n with
  | zero => exact ⟨fun wr v iv fs u fs' h => by simp [backRoot] at h, fun wr j vs ivs fs u fs' h => by simp [backRoots] at h⟩
  | succ n ih =>
    refine ⟨fun wr v iv fs u fs' h => ?_, fun wr j vs ivs fs u fs' h => ?_⟩
    · cases v <;> simp only [backRoot] at h <;> try (cases h; done)
      case undef => simp at h; obtain ⟨rfl, rfl⟩ := h; simp
      case d x => simp at h; obtain ⟨rfl, rfl⟩ := h; simp
      case agg cs => simp at h; obtain ⟨rfl, rfl⟩ := h; simp
      case own e t =>
        cases wr with
        | false => simp at h; obtain ⟨rfl, rfl⟩ := h; simp
        | true =>
          simp only [if_true] at h
          cases iv <;> (try simp only at h) <;> try (cases h; done)
          · simp at h; obtain ⟨rfl, rfl⟩ := h; simp
          · split at h
            · simp at h; obtain ⟨rfl, rfl⟩ := h; simp [occAV]
            · cases h
      case mp t =>
        cases iv <;> simp only [backRoot] at h <;> try (cases h; done)
        simp at h; obtain ⟨rfl, rfl⟩ := h; simp [occAV]
      case fn f cs =>
        cases iv <;> simp only [backRoot] at h <;> try (cases h; done)
        split at h
        · simpa only [occAV] using ih.2 _ _ _ _ _ _ _ h
        · cases h
      case ptr t off =>
        cases off with
        | succ m => simp [backRoot] at h
        | zero =>
          cases iv <;> simp only [backRoot] at h <;> try (cases h; done)
          · simp at h; obtain ⟨rfl, rfl⟩ := h; simp
          · rename_i xs
            cases hc : putIVs n xs fs with
            | none => simp [hc] at h
            | some p =>
              obtain ⟨cs, u', f'⟩ := p
              simp [hc] at h
              obtain ⟨rfl, rfl⟩ := h
              obtain ⟨us0, c1, c2, c3, c4⟩ := (putIV_tags n).2 _ _ _ _ _ hc
              refine ⟨fun y hy => ?_, fun t ht => by rw [c1]; simp [ht]⟩
              rcases List.mem_append.1 hy with hy | hy
              · left; rw [c1]; simp [c4 y hy]
              · simp at hy; subst hy; simp [occAV]
    · cases vs with
      | nil =>
        cases ivs <;> simp only [backRoots] at h <;> try (cases h; done)
        simp at h
        obtain ⟨rfl, rfl⟩ := h
        simp
      | cons v vs =>
        cases ivs with
        | nil => simp [backRoots] at h
        | cons iv ivs =>
          simp only [backRoots] at h
          cases hc : backRoot (wr j) n v iv fs with
          | none => simp [hc] at h
          | some p =>
            obtain ⟨u1, f1⟩ := p
            cases hc2 : backRoots wr (j + 1) n vs ivs f1 with
            | none => simp [hc, hc2] at h
            | some q =>
              obtain ⟨u2, f2⟩ := q
              simp [hc, hc2] at h
              obtain ⟨rfl, rfl⟩ := h
              obtain ⟨a1, a2⟩ := ih.1 _ _ _ _ _ _ hc
              obtain ⟨b1, b2⟩ := ih.2 _ _ _ _ _ _ _ hc2
              refine ⟨fun y hy => ?_, fun t ht => a2 t (b2 t ht)⟩
              rcases List.mem_append.1 hy with hy | hy
              · exact (a1 y hy).imp id (fun h => by simp [occAVs, h])
              · exact (b1 y hy).imp (a2 _) (fun h => by simp [occAVs, h])
theorem back_sound : ∀ n,
    (∀ (wr : Bool) (v : AV A) iv uv F fs u fs' (S : St A) γ φ, backRoot wr n v iv fs = some (u, fs') → Rel T w0 F0 X γ φ av w tmps S → RAV T w av S.look γ v uv → RIV T w av iv uv F → F.Nodup → Own w0 F0 X φ av w S F → fs.Nodup →
      (∀ t ∈ fs, S.look t = none) → (∀ t, occAV t v = true → t ∉ fs) → (u.map (·.1)).Nodup → (∀ y ∈ u, y.1 < S.st.length ∧ ((y.1 ∈ fs ∧ occSt y.1 S = false) ∨ ∃ kd, S.look y.1 = some (.gone kd))) →
      ∃ γ' φ' used roots, fs = used ++ fs' ∧ Rel T w0 F0 X γ' φ' av w tmps (S.upd u) ∧ Only S (S.upd u) γ γ' φ φ' (used ++ roots) F ∧ (∀ t, t ∉ fs → Compat S.look γ (S.upd u).look γ' t) ∧
        (∀ y ∈ u, ∀ t, occOb t y.2 = true → t ∈ used) ∧ (∀ t ∈ roots, (∃ y ∈ u, y.1 = t) ∧ occAV t v = true)) ∧
    (∀ (wr : Nat → Bool) (j : Nat) (vs : List (AV A)) ivs uvs F fs u fs' (S : St A) γ φ, backRoots wr j n vs ivs fs = some (u, fs') → Rel T w0 F0 X γ φ av w tmps S → RAVs T w av S.look γ vs uvs → RIVs T w av ivs uvs F → F.Nodup → Own w0 F0 X φ av w S F → fs.Nodup →
      (∀ t ∈ fs, S.look t = none) → (∀ t, occAVs t vs = true → t ∉ fs) → (u.map (·.1)).Nodup → (∀ y ∈ u, y.1 < S.st.length ∧ ((y.1 ∈ fs ∧ occSt y.1 S = false) ∨ ∃ kd, S.look y.1 = some (.gone kd))) →
      ∃ γ' φ' used roots, fs = used ++ fs' ∧ Rel T w0 F0 X γ' φ' av w tmps (S.upd u) ∧ Only S (S.upd u) γ γ' φ φ' (used ++ roots) F ∧ (∀ t, t ∉ fs → Compat S.look γ (S.upd u).look γ' t) ∧
        (∀ y ∈ u, ∀ t, occOb t y.2 = true → t ∈ used) ∧ (∀ t ∈ roots, (∃ y ∈ u, y.1 = t) ∧ occAVs t vs = true)) := by
  intro n
  induction n with
  | zero => exact ⟨fun wr v iv uv F fs u fs' S γ φ h => by simp [backRoot] at h, fun wr j vs ivs uvs F fs u fs' S γ φ h => by simp [backRoots] at h⟩
  | succ n ih =>
    refine ⟨fun wr v iv uv F fs u fs' S γ φ h hr hv hiv hnd hown hfs hno hocc hu hy => ?_, fun wr j vs ivs uvs F fs u fs' S γ φ h hr hv hiv hnd hown hfs hno hocc hu hy => ?_⟩
    · have triv : u = [] → fs' = fs → ∃ γ' φ' used roots, fs = used ++ fs' ∧ Rel T w0 F0 X γ' φ' av w tmps (S.upd u) ∧ Only S (S.upd u) γ γ' φ φ' (used ++ roots) F ∧ (∀ t, t ∉ fs → Compat S.look γ (S.upd u).look γ' t) ∧
          (∀ y ∈ u, ∀ t, occOb t y.2 = true → t ∈ used) ∧ (∀ t ∈ roots, (∃ y ∈ u, y.1 = t) ∧ occAV t v = true) := by
        rintro rfl rfl
        exact ⟨γ, φ, [], [], rfl, hr, Only.refl.mono (by simp) (by simp) (by simp), fun t _ => Compat.same rfl rfl, by simp, by simp⟩
      have one : ∀ (t : Nat) (o : Ob A), u = [(t, some o)] → fs' = fs → occAV t v = true → (∀ q, occOb q (some o) = false) → (∀ kd, S.look t = some (.gone kd) → o.kind = kd) →
          (∀ γ' φ' look, γ' t = γ t → φ' t = F → S.look t ≠ none → ROb T w av look γ' φ' t o) → ∃ γ' φ' used roots, fs = used ++ fs' ∧ Rel T w0 F0 X γ' φ' av w tmps (S.upd u) ∧ Only S (S.upd u) γ γ' φ φ' (used ++ roots) F ∧ (∀ t, t ∉ fs → Compat S.look γ (S.upd u).look γ' t) ∧
          (∀ y ∈ u, ∀ t, occOb t y.2 = true → t ∈ used) ∧ (∀ t ∈ roots, (∃ y ∈ u, y.1 = t) ∧ occAV t v = true) := by
        rintro t o rfl rfl ht ho hk hob
        obtain ⟨h1, h2⟩ := hy (t, some o) (by simp)
        obtain ⟨kd, hg⟩ := h2.resolve_left (fun h => hocc t ht h.1)
        obtain ⟨γ', φ', a1, a2, a3⟩ := back_one hr hg h1 (hk kd hg) hnd hown (fun γ' φ' b1 b2 b3 => hob γ' φ' _ b1 b2 (by rw [hg]; simp))
        exact ⟨γ', φ', [], [t], rfl, a1, a2, fun t _ => a3 t, by simp [ho], by simp [ht]⟩
      cases v with
      | undef => simp [backRoot] at h; exact triv h.1 h.2.symm
      | d x => simp [backRoot] at h; exact triv h.1 h.2.symm
      | agg cs => simp [backRoot] at h; exact triv h.1 h.2.symm
      | tup cs => simp [backRoot] at h
      | elp e t i off => simp [backRoot] at h
      | cel cs off => simp [backRoot] at h
      | own e t =>
        simp only [backRoot] at h
        cases wr with
        | false => simp at h; exact triv h.1 h.2.symm
        | true =>
          simp only [if_true] at h
          cases iv <;> (try simp only at h) <;> try (cases h; done)
          · simp at h; exact triv h.1 h.2.symm
          · rename_i e' xs
            split at h
            · rename_i he
              subst he
              simp at h
              refine one t (.row e' xs) h.1.symm h.2.symm (by simp [occAV]) (fun q => rfl) (fun kd hg => ?_) (fun γ' φ' look b1 b2 hn => ?_)
              · simp only [RAV] at hv
                have := (hv _ hg).2
                exact this.symm
              · simp only [ROb]
                rw [b1, b2]
                simp only [RAV] at hv
                cases hg : S.look t with
                | none => exact absurd hg hn
                | some o => rw [← (hv o hg).1]; exact hiv
            · cases h
      | vw e t lo hi => simp [backRoot] at h
      | mp t =>
        cases iv <;> simp only [backRoot] at h <;> try (cases h; done)
        rename_i k e m
        simp at h
        refine one t (.mp k e m) h.1.symm h.2.symm (by simp [occAV]) (fun q => rfl) (fun kd hg => ?_) (fun γ' φ' look b1 b2 hn => ?_)
        · simp only [RAV] at hv
          exact (hv _ hg).2.symm
        · simp only [ROb]
          rw [b1, b2]
          simp only [RAV] at hv
          cases hg : S.look t with
          | none => exact absurd hg hn
          | some o => rw [← (hv o hg).1]; exact hiv
      | fn f cs =>
        cases iv <;> simp only [backRoot] at h <;> try (cases h; done)
        rename_i f' xs
        split at h
        · simp only [RAV] at hv
          obtain ⟨vs, rfl, hvs⟩ := hv
          simp only [RIV] at hiv
          obtain ⟨vs', he, hivs⟩ := hiv
          cases he
          exact ih.2 _ _ _ _ _ _ _ _ _ _ _ _ h hr hvs hivs hnd hown hfs hno (fun t ht => hocc t (by simpa [occAV] using ht)) hu hy
        · cases h
      | ptr t off =>
        cases off with
        | succ m => simp [backRoot] at h
        | zero =>
          cases iv <;> simp only [backRoot] at h <;> try (cases h; done)
          · simp at h; exact triv h.1 h.2.symm
          · rename_i xs
            cases hc : putIVs n xs fs with
            | none => simp [hc] at h
            | some p =>
              obtain ⟨cs, u', f'⟩ := p
              simp [hc] at h
              obtain ⟨rfl, rfl⟩ := h
              obtain ⟨hlt, hy1⟩ := hy (t, some (.box cs)) (by simp)
              obtain ⟨kd, hg⟩ := hy1.resolve_left (fun h => hocc t (by simp [occAV]) h.1)
              simp only [RAV] at hv
              obtain ⟨⟨b, hgt, rfl⟩, hkd⟩ := hv _ hg
              simp only [RIV] at hiv
              obtain ⟨b', c, ty, F', he, rfl, hb, hvs⟩ := hiv
              simp only [Value.pointer.injEq, Option.some.injEq, Addr.mk.injEq, and_true] at he
              subst he
              have hnd' := List.nodup_cons.1 hnd
              obtain ⟨us0, c1, c2, c3, c4⟩ := (putIV_tags n).2 _ _ _ _ _ hc
              have hin : ∀ y ∈ u', y.1 ∈ fs := fun y hy => by rw [c1]; simp [c4 y hy]
              obtain ⟨γ1, φ1, used, a1, a2, a3, a4, a5, a6, a7⟩ := (putIV_sound n).2 _ _ _ _ _ _ _ _ _ _ hc hr hvs hnd'.2 (hown.sub (by simp +contextual)) hfs hno (fun y hym => by
                obtain ⟨h1, h2⟩ := hy y (by simp [hym])
                refine ⟨h1, ?_⟩
                rcases h2 with h2 | ⟨kd, h2⟩
                · exact h2.2
                · rw [hno y.1 (hin y hym)] at h2; cases h2)
              have htu : t ∉ used := fun hm => hocc t (by simp [occAV]) (by rw [a1]; simp [hm])
              have hg1 : (S.upd u').look t = some (.gone kd) := (a4.out t htu).1.trans hg
              obtain ⟨γ', φ', b1, b2, b3⟩ := back_one (o := .box cs) (F := [b]) a2 hg1 (by rw [upd_len]; exact hlt) hkd.symm (by simp)
                ((hown.sub (F := [b]) (by simp)).only a4 (fun x hx hm => by simp at hm; subst hm; exact hnd'.1 hx)) (fun γ' φ' h1 h2 h3 => by
                  simp only [ROb]
                  refine ⟨b, c, ty, by rw [h1, (a4.out t htu).2.1]; exact hgt, h2, hb, ?_⟩
                  refine RAVs.mono (Pres.refl _ _) _ _ (fun q hq => ?_) a3
                  have hne : q ≠ t := fun e => htu (e ▸ a5 q hq)
                  exact Compat.same (h3 q hne).2 (h3 q hne).1)
              rw [upd_append]
              refine ⟨γ', φ', used, [t], a1, b1, (a4.trans b2).mono (fun _ h => h) (fun _ h => h) (fun x hx => by simp at hx ⊢; exact hx.symm), fun q hq => ?_, ?_, by simp [occAV]⟩
              · refine Compat.trans' (Compat.same (a4.out q (fun hm => hq (by rw [a1]; simp [hm]))).1 (a4.out q (fun hm => hq (by rw [a1]; simp [hm]))).2.1) (b3 q)
              · intro y hy q hq
                rcases List.mem_append.1 hy with hy | hy
                · exact a6 y hy q hq
                · simp at hy; subst hy; exact a5 q (by simpa [occOb] using hq)
    · cases vs with
      | nil =>
        cases ivs <;> simp only [backRoots] at h <;> try (cases h; done)
        simp at h
        obtain ⟨rfl, rfl⟩ := h
        exact ⟨γ, φ, [], [], rfl, hr, Only.refl.mono (by simp) (by simp) (by simp), fun t _ => Compat.same rfl rfl, by simp, by simp⟩
      | cons v vs =>
        cases ivs with
        | nil => simp [backRoots] at h
        | cons iv ivs =>
          simp only [backRoots] at h
          cases hc : backRoot (wr j) n v iv fs with
          | none => simp [hc] at h
          | some p =>
            obtain ⟨u1, f1⟩ := p
            cases hc2 : backRoots wr (j + 1) n vs ivs f1 with
            | none => simp [hc, hc2] at h
            | some q =>
              obtain ⟨u2, f2⟩ := q
              simp [hc, hc2] at h
              obtain ⟨rfl, rfl⟩ := h
              simp only [RIVs] at hiv
              obtain ⟨uv, uvs', F1, F2, rfl, rfl, hv1, hv2⟩ := hiv
              simp only [RAVs] at hv
              obtain ⟨uv', uvs'', he, hx1, hx2⟩ := hv
              cases he
              obtain ⟨hn1, hn2, hn3⟩ := nodup_append hnd
              rw [List.map_append] at hu
              obtain ⟨hu1, hu2, hu3⟩ := nodup_append hu
              obtain ⟨γ1, φ1, us1, rt1, a1, a2, a3, a4, a5, a6⟩ := ih.1 _ _ _ _ _ _ _ _ _ _ _ hc hr hx1 hv1 hn1 (hown.sub (by simp +contextual)) hfs hno (fun t ht => hocc t (by simp [occAVs, ht])) hu1 (fun y hym => hy y (by simp [hym]))
              have hfs0 := hfs
              rw [a1] at hfs0
              obtain ⟨hf1, hf2, hf3⟩ := nodup_append hfs0
              obtain ⟨tg1, tg2⟩ := (back_tags n).2 _ _ _ _ _ _ _ hc2
              obtain ⟨γ2, φ2, us2, rt2, b1, b2, b3, b4, b5, b6⟩ := ih.2 _ _ _ _ _ _ _ _ _ _ _ _ hc2 a2 (RAVs.mono (Pres.refl _ _) _ _ (fun t ht => a4 t (hocc t (by simp [occAVs, ht]))) hx2) hv2 hn2
                ((hown.sub (by simp +contextual)).only a3 hn3) hf2
                (fun t ht => (a3.out t (fun hm => (List.mem_append.1 hm).elim (fun hm => hf3 t hm ht) (fun hm => hocc t (by simp [occAVs, (a6 t hm).2]) (by rw [a1]; simp [ht])))).1.trans (hno t (by rw [a1]; simp [ht])))
                (fun t ht hm => hocc t (by simp [occAVs, ht]) (by rw [a1]; simp [hm])) hu2 (fun y hym => by
                  obtain ⟨h1, h2⟩ := hy y (by simp [hym])
                  refine ⟨by rw [upd_len]; exact h1, ?_⟩
                  rcases tg1 y hym with hf | hf
                  · refine .inl ⟨hf, ?_⟩
                    have hff : y.1 ∈ fs := by rw [a1]; simp [hf]
                    have h3 : occSt y.1 S = false := by
                      rcases h2 with h2 | ⟨kd, h2⟩
                      · exact h2.2
                      · rw [hno _ hff] at h2; cases h2
                    cases hq' : occSt y.1 (S.upd u1) with
                    | false => rfl
                    | true =>
                      rcases occSt_upd' hq' with hq' | ⟨z, hz, hq'⟩
                      · rw [h3] at hq'; cases hq'
                      · exact absurd hf (hf3 _ (a5 z hz _ hq'))
                  · have hnf : y.1 ∉ fs := hocc y.1 (by simp [occAVs, hf])
                    obtain ⟨kd, h2⟩ := h2.resolve_left (fun h => hnf h.1)
                    refine .inr ⟨kd, (a3.out y.1 (fun hm => ?_)).1.trans h2⟩
                    rcases List.mem_append.1 hm with hm | hm
                    · exact hnf (by rw [a1]; simp [hm])
                    · obtain ⟨⟨z, hz, hzy⟩, _⟩ := a6 _ hm
                      exact hu3 z.1 (List.mem_map.2 ⟨z, hz, rfl⟩) (by rw [hzy]; exact List.mem_map.2 ⟨y, hym, rfl⟩))
              rw [upd_append]
              refine ⟨γ2, φ2, us1 ++ us2, rt1 ++ rt2, by rw [a1, b1, List.append_assoc], b2, (a3.trans b3).mono ?_ ?_ (fun _ h => h), ?_, ?_, ?_⟩
              · intro t ht; simp only [List.mem_append] at ht ⊢; rcases ht with (h | h) | (h | h) <;> simp [h]
              · intro t ht; simp only [List.mem_append] at ht ⊢; rcases ht with (h | h) | (h | h) <;> simp [h]
              · intro t ht
                exact (a4 t ht).trans' (b4 t (fun hm => ht (by rw [a1]; simp [hm])))
              · intro y hy t ht
                exact List.mem_append.2 ((List.mem_append.1 hy).imp (fun h => a5 y h t ht) (fun h => b5 y h t ht))
              · intro t ht
                rcases List.mem_append.1 ht with ht | ht
                · obtain ⟨⟨y, h1, h2⟩, h3⟩ := a6 t ht
                  exact ⟨⟨y, by simp [h1], h2⟩, by simp [occAVs, h3]⟩
                · obtain ⟨⟨y, h1, h2⟩, h3⟩ := b6 t ht
                  exact ⟨⟨y, by simp [h1], h2⟩, by simp [occAVs, h3]⟩
end Go.Am
