/- Part of an abstract machine for this program, with its soundness: AmCall. No condition: lemmas for the claim. -/
import Derived.Test.YtnkoiigdcbjenaaGreatDoorAmOps6
set_option linter.unusedVariables false
set_option linter.unusedSimpArgs false
namespace Go.Am
open Go
variable {A : Nat → Type}
variable {T : Ty A} {w0 w w' : World} {F0 : List Nat} {X : Nat → Prop} {γ γ' : Nat → Value} {φ φ' : Nat → List Nat} {av av' : Nat → Prop} {tmps : Array Value} {S S' : St A} {R : Type} {P : Program}
variable {k : AV A → Upd A → List Nat → Option R} {res : R}
theorem RIVs.append : ∀ {xs ys : List (IV A)} {vs us : List Value} {F G : List Nat}, RIVs T w av xs vs F → RIVs T w av ys us G → RIVs T w av (xs ++ ys) (vs ++ us) (F ++ G)
  | [], ys, vs, us, F, G, h, h' => by simp only [RIVs] at h; obtain ⟨rfl, rfl⟩ := h; simpa using h'
  | x :: xs, ys, vs, us, F, G, h, h' => by
    simp only [RIVs] at h
    obtain ⟨v, vs', F1, F2, rfl, rfl, h1, h2⟩ := h
    simp only [List.cons_append, RIVs]
    exact ⟨v, vs' ++ us, F1, F2 ++ G, rfl, by simp, h1, RIVs.append h2 h'⟩
theorem hand_sound (h : Rel T w0 F0 X γ φ av w tmps S) : ∀ n,
    (∀ x v iv ts, RAV T w av S.look γ x v → hand S.look n x = some (iv, ts) → RIV T w av iv v (ts.flatMap φ) ∧ ∀ t ∈ ts, (S.look t).isSome = true) ∧
    (∀ xs vs ivs ts, RAVs T w av S.look γ xs vs → hands S.look n xs = some (ivs, ts) → RIVs T w av ivs vs (ts.flatMap φ) ∧ ∀ t ∈ ts, (S.look t).isSome = true) := by
  intro n
  induction n with
  | zero => exact ⟨fun x v iv ts _ h => by simp [hand] at h, fun xs vs ivs ts _ h => by simp [hands] at h⟩
  | succ n ih =>
    refine ⟨fun x v iv ts hx hh => ?_, fun xs vs ivs ts hx hh => ?_⟩
    · cases x <;> simp only [hand] at hh <;> try (cases hh; done)
      case undef => simp at hh; obtain ⟨rfl, rfl⟩ := hh; exact ⟨by simp [RIV], by simp⟩
      case d y => simp at hh; obtain ⟨rfl, rfl⟩ := hh; simp only [RAV] at hx; exact ⟨by simp [RIV, hx], by simp⟩
      case agg cs =>
        cases hc : hands S.look n cs with
        | none => simp [hc] at hh
        | some p =>
          obtain ⟨ivs, ts'⟩ := p
          simp [hc] at hh
          obtain ⟨rfl, rfl⟩ := hh
          simp only [RAV] at hx
          obtain ⟨vs, rfl, hvs⟩ := hx
          obtain ⟨h1, h2⟩ := ih.2 _ _ _ _ hvs hc
          exact ⟨by simp only [RIV]; exact ⟨vs, rfl, h1⟩, h2⟩
      case tup cs =>
        cases hc : hands S.look n cs with
        | none => simp [hc] at hh
        | some p =>
          obtain ⟨ivs, ts'⟩ := p
          simp [hc] at hh
          obtain ⟨rfl, rfl⟩ := hh
          simp only [RAV] at hx
          obtain ⟨vs, rfl, hvs⟩ := hx
          obtain ⟨h1, h2⟩ := ih.2 _ _ _ _ hvs hc
          exact ⟨by simp only [RIV]; exact ⟨vs, rfl, h1⟩, h2⟩
      case fn f cs =>
        cases hc : hands S.look n cs with
        | none => simp [hc] at hh
        | some p =>
          obtain ⟨ivs, ts'⟩ := p
          simp [hc] at hh
          obtain ⟨rfl, rfl⟩ := hh
          simp only [RAV] at hx
          obtain ⟨vs, rfl, hvs⟩ := hx
          obtain ⟨h1, h2⟩ := ih.2 _ _ _ _ hvs hc
          exact ⟨by simp only [RIV]; exact ⟨vs, rfl, h1⟩, h2⟩
      case own e t =>
        cases hl : S.look t with
        | none => simp [hl] at hh
        | some ob =>
          rw [hl] at hh
          simp only [RAV] at hx
          obtain ⟨hv, hx2⟩ := hx ob hl
          clear hx2
          have hob := h.ob t ob hl
          cases ob <;> (try simp only at hh) <;> try (cases hh; done)
          rename_i e' xs
          split at hh
          · simp only [Option.some.injEq, Prod.mk.injEq] at hh
            obtain ⟨rfl, rfl⟩ := hh
            simp only [ROb] at hob
            exact ⟨by simpa [hv] using hob, by simp [hl]⟩
          · cases hh
      case ptr t off =>
        cases off with
        | succ m => simp at hh
        | zero =>
          cases hl : S.look t with
          | none => simp [hl] at hh
          | some ob =>
            rw [hl] at hh
            simp only [RAV] at hx
            obtain ⟨⟨b, hg, rfl⟩, hx2⟩ := hx ob hl
            clear hx2
            have hob := h.ob t ob hl
            cases ob <;> (try simp only at hh) <;> try (cases hh; done)
            rename_i cs
            cases hc : hands S.look n cs with
            | none => simp [hc] at hh
            | some p =>
              obtain ⟨ivs, ts'⟩ := p
              simp [hc] at hh
              obtain ⟨rfl, rfl⟩ := hh
              simp only [ROb] at hob
              obtain ⟨b', c, ty, hg', hφ, hc', hcs⟩ := hob
              have hbb : b' = b := by rw [hg] at hg'; simpa using hg'.symm
              subst hbb
              obtain ⟨h1, h2⟩ := ih.2 _ _ _ _ hcs hc
              refine ⟨?_, by intro t' ht'; rcases List.mem_cons.1 ht' with rfl | ht'; simp [hl]; exact h2 t' ht'⟩
              simp only [RIV]
              exact ⟨b', c, ty, ts'.flatMap φ, rfl, by simp [hφ], hc', h1⟩
      case mp t =>
        cases hl : S.look t with
        | none => simp [hl] at hh
        | some ob =>
          rw [hl] at hh
          simp only [RAV] at hx
          obtain ⟨hv, hx2⟩ := hx ob hl
          clear hx2
          have hob := h.ob t ob hl
          cases ob <;> (try simp only at hh) <;> try (cases hh; done)
          simp only [Option.some.injEq, Prod.mk.injEq] at hh
          obtain ⟨rfl, rfl⟩ := hh
          simp only [ROb] at hob
          exact ⟨by simpa [hv] using hob, by simp [hl]⟩
    · cases xs with
      | nil =>
        simp [hands] at hh
        obtain ⟨rfl, rfl⟩ := hh
        simp only [RAVs] at hx
        subst hx
        exact ⟨by simp [RIVs], by simp⟩
      | cons x xs =>
        simp only [RAVs] at hx
        obtain ⟨v, vs', rfl, h1, h2⟩ := hx
        simp only [hands] at hh
        cases hc : hand S.look n x with
        | none => simp [hc] at hh
        | some p =>
          obtain ⟨iv, t1⟩ := p
          cases hc2 : hands S.look n xs with
          | none => simp [hc, hc2] at hh
          | some q =>
            obtain ⟨ivs', t2⟩ := q
            simp [hc, hc2] at hh
            obtain ⟨rfl, rfl⟩ := hh
            obtain ⟨a1, a2⟩ := ih.1 _ _ _ _ h1 hc
            obtain ⟨b1, b2⟩ := ih.2 _ _ _ _ h2 hc2
            refine ⟨?_, fun t ht => (List.mem_append.1 ht).elim (a2 t) (b2 t)⟩
            simp only [RIVs]
            exact ⟨v, vs', t1.flatMap φ, t2.flatMap φ, rfl, by simp, a1, b1⟩
theorem Rel.lend (h : Rel T w0 F0 X γ φ av w tmps S) {t e : Nat} {xs : List (A e)} (hl : S.look t = some (.row e xs) ∨ S.look t = some (.frz e xs)) {avL : Nat → Prop} (hsub : ∀ b, avL b → av b) (hno : ∀ b ∈ φ t, ¬ avL b) : DR T w avL (.sl e xs) (γ t) := by
  have hp : Pres w av w avL := fun b o hb ho => ⟨ho, fun hx => hb (hsub b hx)⟩
  rcases hl with hl | hl
  · have hr := h.ob t _ hl
    simp only [ROb, RIV] at hr
    obtain ⟨ob, hφ, hs, hrow⟩ := hr
    cases ob with
    | none =>
      simp only [OwnSl] at hs
      obtain ⟨hn, hv⟩ := hs
      have : xs = [] := List.eq_nil_of_length_eq_zero hn
      subst this
      rw [hv]
      exact DR.of_row (.inl rfl) (Nat.zero_le _) (fun hne => absurd rfl hne)
    | some b =>
      simp only [OwnSl] at hs
      obtain ⟨cap, c, ty, hv, hle, hc, _⟩ := hs
      obtain ⟨c', ty', hc', hr⟩ := hrow b rfl
      rw [hv]
      exact DR.of_row (.inr ⟨_, _, rfl⟩) hle (fun _ => ⟨b, 0, c', ty', _, rfl, hno b (by simp [hφ]), hc', hr.mono hp⟩)
  · have hr := h.ob t _ hl
    simp only [ROb] at hr
    exact hr.2.1.mono hp
theorem handArgs_sound (h : Rel T w0 F0 X γ φ av w tmps S) {avL : Nat → Prop} (hsub : ∀ b, avL b → av b) {wr : Nat → Bool} : ∀ {xs : List (AV A)} {vs : List Value} {j : Nat} {ivs : List (IV A)} {ts lent : List Nat},
    RAVs T w av S.look γ xs vs → handArgs S.look wr j xs = some (ivs, ts, lent) → (∀ t ∈ lent, ∀ b ∈ φ t, ¬ avL b) →
    RIVs T w avL ivs vs (ts.flatMap φ) ∧ (∀ t ∈ ts, (S.look t).isSome = true) ∧ (∀ t ∈ lent, ∃ e, ∃ xs : List (A e), S.look t = some (.row e xs) ∨ S.look t = some (.frz e xs))
  | [], vs, j, ivs, ts, lent, hx, hh, hno => by
    simp [handArgs] at hh
    obtain ⟨rfl, rfl, rfl⟩ := hh
    simp only [RAVs] at hx
    subst hx
    exact ⟨by simp [RIVs], by simp, by simp⟩
  | x :: xs, vs, j, ivs, ts, lent, hx, hh, hno => by
    simp only [RAVs] at hx
    obtain ⟨v, vs', rfl, h1, h2⟩ := hx
    simp only [handArgs] at hh
    have hp : Pres w av w avL := fun b o hb ho => ⟨ho, fun hx => hb (hsub b hx)⟩
    cases hc : handArg S.look (wr j) x with
    | none => simp [hc] at hh
    | some p =>
      obtain ⟨iv, t1, l1⟩ := p
      cases hc2 : handArgs S.look wr (j + 1) xs with
      | none => simp [hc, hc2] at hh
      | some q =>
        obtain ⟨ivs', t2, l2⟩ := q
        simp [hc, hc2] at hh
        obtain ⟨rfl, rfl, rfl⟩ := hh
        obtain ⟨b1, b2, b3⟩ := handArgs_sound h hsub h2 hc2 (fun t ht => hno t (by simp [ht]))
        have hone : RIV T w avL iv v (t1.flatMap φ) ∧ (∀ t ∈ t1, (S.look t).isSome = true) ∧ (∀ t ∈ l1, ∃ e, ∃ xs : List (A e), S.look t = some (.row e xs) ∨ S.look t = some (.frz e xs)) := by
          unfold handArg at hc
          split at hc
          · rename_i e t hwr
            simp only [RAV] at h1
            cases hl : S.look t with
            | none => simp [hl] at hc
            | some ob =>
              rw [hl] at hc
              obtain ⟨hv, hx2⟩ := h1 ob hl
              clear hx2
              cases ob <;> (try simp only at hc) <;> try (cases hc; done)
              all_goals
                simp only [Option.some.injEq, Prod.mk.injEq] at hc
                obtain ⟨rfl, rfl, rfl⟩ := hc
                refine ⟨?_, by simp, by intro t' ht'; simp at ht'; subst ht'; first | exact ⟨_, _, .inl hl⟩ | exact ⟨_, _, .inr hl⟩⟩
                simp only [RIV, List.flatMap_nil, true_and]
                rw [hv]
                exact h.lend (by first | exact .inl hl | exact .inr hl) hsub (hno t (by simp))
          · rename_i y _ _ hnot
            cases hd : hand S.look 64 y with
            | none => simp [hd] at hc
            | some p =>
              obtain ⟨iv', t'⟩ := p
              simp [hd] at hc
              obtain ⟨rfl, rfl, rfl⟩ := hc
              obtain ⟨c1, c2⟩ := (hand_sound h 64).1 _ _ _ _ h1 hd
              exact ⟨RIV.mono hp _ _ _ (fun _ _ => rfl) c1, c2, by simp⟩
        obtain ⟨a1, a2, a3⟩ := hone
        refine ⟨?_, fun t ht => (List.mem_append.1 ht).elim (a2 t) (b2 t), fun t ht => (List.mem_append.1 ht).elim (a3 t) (b3 t)⟩
        simp only [RIVs]
        exact ⟨v, vs', t1.flatMap φ, t2.flatMap φ, rfl, by simp, a1, b1⟩
end Go.Am
