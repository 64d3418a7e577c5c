/- Part of an abstract machine for this program, with its soundness: AmCall5. No condition: lemmas for the claim. -/
import Derived.Test.YtnkoiigdcbjenaaGreatDoorAmCall4
set_option linter.unusedVariables false
set_option linter.unusedSimpArgs false
namespace Go.Am
open Go
variable {A : Nat → Type}
variable {T : Ty A} {w0 w w' : World} {F0 : List Nat} {X : Nat → Prop} {γ γ' : Nat → Value} {φ φ' : Nat → List Nat} {av av' : Nat → Prop} {tmps : Array Value} {S S' : St A} {R : Type} {P : Program}
theorem Rel.shrink (h : Rel T w0 F0 X γ φ av w tmps S) (hs : ∀ b, av' b → av b) (ho : ∀ b, (X b ∨ ∃ t o, S.look t = some o ∧ b ∈ φ t) → av' b) : Rel T w0 F0 X γ φ av' w tmps S :=
  h.upd (fun _ => False) rfl (fun b o hb ho => ⟨ho, fun hx => hb (hs b hx)⟩) (fun t _ => ⟨rfl, rfl, rfl⟩) (fun _ _ _ _ _ _ => rfl) (fun t hf => hf.elim) (fun t o hf => hf.elim) (fun t o hf => hf.elim)
    (fun t o t' o' hf => hf.elim) ho (fun b hb => h.avlt b (hs b hb)) (fun t o hf => hf.elim) (Nat.le_refl _) h.left
theorem Rel.notX (h : Rel T w0 F0 X γ φ av w tmps S) {t : Nat} {o : Ob A} (ho : S.look t = some o) {b : Nat} (hb : b ∈ φ t) : ¬ X b := by
  intro hx
  rcases (h.fp t o ho b hb).1 with h1 | h1
  · exact (h.x b hx).2 h1
  · exact absurd (h.x b hx).1 (Nat.not_lt.2 h1)
theorem set_same {α : Type} : ∀ (l : List α) (i : Nat) (a : α), l[i]? = some a → l.set i a = l
  | [], i, a, h => by simp at h
  | x :: xs, 0, a, h => by simp at h; simp [h]
  | x :: xs, i + 1, a, h => by simp at h; simp [set_same xs i a h]
theorem look_getElem {t : Nat} {o : Ob A} (h : S.look t = some o) : S.st[t]? = some (some o) := by
  unfold St.look at h
  cases hs : S.st[t]? with
  | none => simp [hs] at h
  | some x => simp [hs] at h; simp [h]
theorem Rel.shuts : ∀ {lent : List Nat} {S : St A} {φ : Nat → List Nat} {av : Nat → Prop}, Rel T w0 F0 X γ φ av w tmps S →
    (∀ t ∈ lent, ∃ e, ∃ xs : List (A e), S.look t = some (.row e xs) ∨ S.look t = some (.frz e xs)) →
    ∃ φ', Rel T w0 F0 X γ φ' (fun b => av b ∧ ∀ t ∈ lent, b ∉ φ t) w tmps (S.upd (lentU S.look lent)) ∧ (∀ t, t ∉ lent → φ' t = φ t ∧ (S.upd (lentU S.look lent)).look t = S.look t) ∧ (∀ t ∈ lent, φ' t = []) ∧
      (∀ t, Compat S.look γ (S.upd (lentU S.look lent)).look γ t)
  | [], S, φ, av, h, hl => ⟨φ, h.shrink (fun b hb => hb.1) (fun b hb => ⟨h.avs b hb, by simp⟩), fun t _ => ⟨rfl, rfl⟩, by simp, fun t => Compat.same rfl rfl⟩
  | t :: r, S, φ, av, h, hl => by
    obtain ⟨e, xs, ht⟩ := hl t (by simp)
    have step : ∃ φ1 av1 S1, Rel T w0 F0 X γ φ1 av1 w tmps S1 ∧ S.upd (lentU S.look (t :: r)) = S1.upd (lentU S1.look r) ∧ (∀ b, av1 b → av b) ∧ (∀ b, av b → b ∉ φ t → av1 b) ∧ φ1 t = [] ∧
        (∀ u, u ≠ t → φ1 u = φ u ∧ S1.look u = S.look u) ∧ S1.look t = some (.frz e xs) ∧ Compat S.look γ S1.look γ t := by
      rcases ht with ht | ht
      · obtain ⟨φ1, av1, a1, a2, a3, a4, a5, a6⟩ := h.freeze ht
        have hlt := look_lt ht
        have hlk : ∀ u, St.look { S with st := S.st.set t (some (.frz e xs)) } u = if u = t then some (.frz e xs) else S.look u := by
          intro u; rw [look_set]; by_cases hu : u = t <;> simp [hu, hlt]
        refine ⟨φ1, av1, _, a1, ?_, a3, a6, ?_, fun u hu => ⟨a5 u hu, by rw [hlk, if_neg hu]⟩, by rw [hlk, if_pos rfl], ?_⟩
        · simp only [lentU, List.map_cons, St.upd, ht]
          congr 1
          apply List.map_congr_left
          intro s hs
          by_cases hst : s = t
          · subst hst; rw [hlk, if_pos rfl]; simp [ht]
          · rw [hlk, if_neg hst]
        · have := a1.ob t (.frz e xs) (by rw [hlk, if_pos rfl])
          simp only [ROb] at this
          exact this.1
        · intro o' ho'
          rw [hlk, if_pos rfl] at ho'; cases ho'
          exact ⟨_, ht, rfl, rfl⟩
      · have hφ : φ t = [] := by
          have := h.ob t _ ht
          simp only [ROb] at this
          exact this.1
        refine ⟨φ, av, S, h, ?_, fun b hb => hb, fun b hb _ => hb, hφ, fun u hu => ⟨rfl, rfl⟩, ht, Compat.same rfl rfl⟩
        simp only [lentU, List.map_cons, St.upd, ht]
        rw [set_same _ _ _ (look_getElem ht)]
    obtain ⟨φ1, av1, S1, b1, b2, b3, b4, b5, b6, b7, b8⟩ := step
    have hl1 : ∀ s ∈ r, ∃ e, ∃ xs : List (A e), S1.look s = some (.row e xs) ∨ S1.look s = some (.frz e xs) := by
      intro s hs
      by_cases hst : s = t
      · subst hst; exact ⟨e, xs, .inr b7⟩
      · rw [(b6 s hst).2]; exact hl s (by simp [hs])
    obtain ⟨φ2, c1, c2, c4, c3⟩ := Rel.shuts b1 hl1
    rw [b2]
    have hc : ∀ u, Compat S.look γ S1.look γ u := by
      intro u
      by_cases hu : u = t
      · subst hu; exact b8
      · exact Compat.same (b6 u hu).2 rfl
    have hφ1 : ∀ u, φ1 u = φ u ∨ φ1 u = [] := by
      intro u
      by_cases hu : u = t
      · subst hu; exact .inr b5
      · exact .inl (b6 u hu).1
    refine ⟨φ2, c1.shrink ?_ ?_, ?_, ?_, fun u => (hc u).trans' (c3 u)⟩
    · rintro b ⟨h1, h2⟩
      refine ⟨b4 b h1 (h2 t (by simp)), fun s hs hb => ?_⟩
      rcases hφ1 s with hp | hp
      · rw [hp] at hb; exact h2 s (by simp [hs]) hb
      · rw [hp] at hb; simp at hb
    · rintro b hb
      have hb0 := c1.avs b hb
      refine ⟨b3 b hb0.1, fun s hs hbs => ?_⟩
      obtain ⟨e', xs', hs'⟩ := hl s hs
      have hsl : ∃ o, S.look s = some o := by rcases hs' with hs' | hs' <;> exact ⟨_, hs'⟩
      obtain ⟨so, hso⟩ := hsl
      rcases hb with hb | ⟨u, o, hu, hm⟩
      · exact h.notX hso hbs hb
      · -- what is owned behind was owned before, by another one
        have hus : ∃ o0, S.look u = some o0 := by
          obtain ⟨o0, h0, _⟩ := (hc u).trans' (c3 u) o hu
          exact ⟨o0, h0⟩
        obtain ⟨o0, ho0⟩ := hus
        by_cases hur : u ∈ r
        · rw [c4 u hur] at hm; simp at hm
        · rw [(c2 u hur).1] at hm
          rcases hφ1 u with hp | hp
          · rw [hp] at hm
            by_cases hus : u = s
            · subst hus
              by_cases hut : u = t
              · subst hut; rw [b5] at hp; rw [← hp] at hm; simp at hm
              · exact absurd ((List.mem_cons.1 hs).resolve_left hut) hur
            · exact h.disj u o0 s so ho0 hso hus b hm hbs
          · rw [hp] at hm; simp at hm
    · intro u hu
      rw [List.mem_cons, not_or] at hu
      exact ⟨(c2 u hu.2).1.trans (b6 u hu.1).1, (c2 u hu.2).2.trans (b6 u hu.1).2⟩
    · intro u hu
      by_cases hur : u ∈ r
      · exact c4 u hur
      · rcases List.mem_cons.1 hu with rfl | hu
        · rw [(c2 u hur).1]; exact b5
        · exact absurd hu hur
theorem ROb.one {look : Nat → Option (Ob A)} {t : Nat} {o : Ob A} (h : ROb T w av look γ φ t o) : (γ t).oneCell' = true := by
  cases o with
  | row e xs =>
    simp only [ROb, RIV] at h
    obtain ⟨ob, _, hs, _⟩ := h
    cases ob with
    | none => simp only [OwnSl] at hs; rw [hs.2]; rfl
    | some b => simp only [OwnSl] at hs; obtain ⟨cap, c, ty, hv, _⟩ := hs; rw [hv]; rfl
  | frz e xs => simp only [ROb] at h; exact h.2.1.one
  | box cs => simp only [ROb] at h; obtain ⟨b, c, ty, hv, _⟩ := h; rw [hv]; rfl
  | mp k e m => simp only [ROb, RIV] at h; obtain ⟨b, es, clock, hv, _⟩ := h; rw [hv]; rfl
  | gone k => simp only [ROb] at h; exact h.2
theorem look_gone {look : Nat → Option (Ob A)} : ∀ {ts : List Nat} {S : St A} (u : Nat), (∀ t ∈ ts, t < S.st.length) →
    (S.upd (goneU look ts)).look u = if u ∈ ts then (look u).map (fun o => .gone o.kind) else S.look u
  | [], S, u, h => by simp [goneU, St.upd]
  | t :: r, S, u, h => by
    have hcons : goneU look (t :: r) = (t, (look t).map fun o => .gone o.kind) :: goneU look r := rfl
    rw [hcons]
    simp only [St.upd]
    rw [look_gone u (by intro s hs; simpa using h s (by simp [hs]))]
    by_cases hu : u ∈ r
    · simp [hu]
    · rw [if_neg hu, look_set]
      by_cases hut : u = t
      · subst hut; simp [h u (by simp)]
      · simp [hut, hu]
theorem Rel.gone (h : Rel T w0 F0 X γ φ av w tmps S) {ts : List Nat} {look : Nat → Option (Ob A)} (hlk : ∀ t ∈ ts, look t = S.look t) (hts : ∀ t ∈ ts, (S.look t).isSome = true) (hl : Left T w w' (· ∈ ts.flatMap φ)) {G : List Nat}
    (hG : ∀ b ∈ G, (b ∈ ts.flatMap φ ∨ w.heap.size ≤ b) ∧ b < w'.heap.size) :
    ∃ φ', Rel T w0 F0 X γ φ' (fun b => (av b ∧ b ∉ ts.flatMap φ) ∨ b ∈ G) w' tmps (S.upd (goneU look ts)) ∧ Own w0 F0 X φ' (fun b => (av b ∧ b ∉ ts.flatMap φ) ∨ b ∈ G) w' (S.upd (goneU look ts)) G ∧
      (∀ t, Compat S.look γ (S.upd (goneU look ts)).look γ t) ∧ Pres w av w' (fun b => (av b ∧ b ∉ ts.flatMap φ) ∨ b ∈ G) := by
  have hlt : ∀ t ∈ ts, t < S.st.length := fun t ht => by obtain ⟨o, ho⟩ := Option.isSome_iff_exists.1 (hts t ht); exact look_lt ho
  have hlook : ∀ u, (S.upd (goneU look ts)).look u = if u ∈ ts then (S.look u).map (fun o => .gone o.kind) else S.look u := by
    intro u
    rw [look_gone u hlt]
    by_cases hu : u ∈ ts
    · simp [hu, hlk u hu]
    · simp [hu]
  let φ' : Nat → List Nat := fun u => if u ∈ ts then [] else φ u
  have hφn : ∀ u, u ∉ ts → φ' u = φ u := fun u hu => by simp [φ', hu]
  have hφi : ∀ u, u ∈ ts → φ' u = [] := fun u hu => by simp [φ', hu]
  have hF : ∀ b ∈ ts.flatMap φ, ∃ t o, t ∈ ts ∧ S.look t = some o ∧ b ∈ φ t := by
    intro b hb
    obtain ⟨t, ht, hbt⟩ := List.mem_flatMap.1 hb
    obtain ⟨o, ho⟩ := Option.isSome_iff_exists.1 (hts t ht)
    exact ⟨t, o, ht, ho, hbt⟩
  have hGnew : ∀ b ∈ G, (b ∈ F0 ∨ w0.heap.size ≤ b) ∧ b < w'.heap.size := by
    intro b hb
    obtain ⟨h1, h2⟩ := hG b hb
    refine ⟨?_, h2⟩
    rcases h1 with h1 | h1
    · obtain ⟨t, o, _, ho, hbt⟩ := hF b h1
      exact (h.fp t o ho b hbt).1
    · exact .inr (Nat.le_trans h.left.size h1)
  have hcompat : ∀ t, Compat S.look γ (S.upd (goneU look ts)).look γ t := by
    intro t o' ho'
    rw [hlook] at ho'
    by_cases ht : t ∈ ts
    · rw [if_pos ht] at ho'
      cases hs : S.look t with
      | none => simp [hs] at ho'
      | some o => simp [hs] at ho'; exact ⟨o, hs.symm ▸ rfl, rfl, by subst ho'; rfl⟩
    · rw [if_neg ht] at ho'
      exact ⟨o', ho', rfl, rfl⟩
  have hpres : Pres w av w' (fun b => (av b ∧ b ∉ ts.flatMap φ) ∨ b ∈ G) := by
    intro b o hb ho
    have hlt : b < w.heap.size := by
      rcases Nat.lt_or_ge b w.heap.size with h | h
      · exact h
      · simp [Array.getElem?_eq_none h] at ho
    have hnF : b ∉ ts.flatMap φ := by
      intro hm
      obtain ⟨t, o', _, ho', hbt⟩ := hF b hm
      exact hb (h.av_of ho' hbt)
    refine ⟨by rw [hl.block b hlt hnF]; exact ho, ?_⟩
    rintro (hx | hx)
    · exact hb hx.1
    · rcases (hG b hx).1 with h1 | h1
      · exact hnF h1
      · exact absurd hlt (Nat.not_lt.2 h1)
  refine ⟨φ', h.upd (fun u => u ∈ ts) (upd_fr _ _) hpres ?_ ?_ (fun t _ _ => hcompat t) ?_ ?_ ?_ ?_ ?_ ?_ hl.size ?_, ⟨fun b hb => .inr hb, ?_, ?_, hGnew⟩, hcompat, hpres⟩
  · intro t ht; exact ⟨by rw [hlook, if_neg ht], rfl, hφn t ht⟩
  · intro t o ht ho b hb
    refine hl.block b (h.fp t o ho b hb).2 (fun hm => ?_)
    obtain ⟨t', o', ht', ho', hbt⟩ := hF b hm
    exact h.disj t o t' o' ho ho' (fun e => ht (e ▸ ht')) b hb hbt
  · intro t o ht ho
    rw [hlook, if_pos ht] at ho
    cases hs : S.look t with
    | none => simp [hs] at ho
    | some o0 =>
      simp [hs] at ho; subst ho
      exact ⟨hφi t ht, (h.ob t o0 hs).one⟩
  · intro t o ht _; rw [hφi t ht]; simp
  · intro t o t' o' ht _ _ _ b hb; rw [hφi t ht] at hb; simp at hb
  · rintro b (hx | ⟨t, o, ho, hm⟩)
    · refine .inl ⟨h.avs b (.inl hx), fun hb => ?_⟩
      obtain ⟨t, o, _, ho, hbt⟩ := hF b hb
      exact h.notX ho hbt hx
    · by_cases ht : t ∈ ts
      · rw [hφi t ht] at hm; simp at hm
      · rw [hφn t ht] at hm
        rw [hlook, if_neg ht] at ho
        refine .inl ⟨h.av_of ho hm, fun hb => ?_⟩
        obtain ⟨t', o', ht', ho', hbt⟩ := hF b hb
        exact h.disj t o t' o' ho ho' (fun e => ht (e ▸ ht')) b hm hbt
  · rintro b (hb | hb)
    · exact Nat.lt_of_lt_of_le (h.avlt b hb.1) hl.size
    · exact (hG b hb).2
  · intro t o ht _ b hb; rw [hφi t ht] at hb; simp at hb
  · obtain ⟨a, b, c, d, e⟩ := h.left
    refine ⟨hl.os.trans a, b.trans hl.tape, hl.output.trans c, Nat.le_trans d hl.size, fun i hi hn => ?_⟩
    rw [hl.block i (Nat.lt_of_lt_of_le hi d) (fun hm => ?_)]
    · exact e i hi hn
    · obtain ⟨t, o, _, ho, hbt⟩ := hF i hm
      rcases (h.fp t o ho i hbt).1 with h1 | h1
      · exact hn h1
      · exact absurd hi (Nat.not_lt.2 h1)
  · intro b hb hx
    rcases (hGnew b hb).1 with h1 | h1
    · exact (h.x b hx).2 h1
    · exact absurd (h.x b hx).1 (Nat.not_lt.2 h1)
  · intro b hb t o ho hm
    by_cases ht : t ∈ ts
    · rw [hφi t ht] at hm; simp at hm
    · rw [hφn t ht] at hm
      rw [hlook, if_neg ht] at ho
      rcases (hG b hb).1 with h1 | h1
      · obtain ⟨t', o', ht', ho', hbt⟩ := hF b h1
        exact h.disj t o t' o' ho ho' (fun e => ht (e ▸ ht')) b hm hbt
      · exact absurd (h.fp t o ho b hm).2 (Nat.not_lt.2 h1)
def FlatOk (T : Ty A) (flat : Nat → Bool) : Prop := ∀ e, flat e = true → ∀ (x : A e) d, d ∈ T.enc e x → D.plain d = true
theorem DR.plain {d : D A} {v : Value} (hp : d.plain = true) (h : DR T w av d v) : DR T w' av' d v := by
  obtain ⟨n, h⟩ := h
  refine ⟨n, ?_⟩
  cases d with
  | sl e xs => simp [D.plain] at hp
  | _ => cases n <;> simpa [DRep] using h
theorem PackRep.plain {flat : Nat → Bool} (hf : FlatOk T flat) {e : Nat} (he : flat e = true) {x : A e} {v : Value} (h : PackRep T w av e x v) : PackRep T w av' e x v := by
  obtain ⟨us, h1, h2, h3⟩ := h
  refine ⟨us, h1, h2, fun j d hj => ?_⟩
  obtain ⟨u, hu, hd⟩ := h3 j d hj
  exact ⟨u, hu, hd.plain (hf e he x d (List.mem_of_getElem? hj))⟩
theorem MapRep.plain {flat : Nat → Bool} (hf : FlatOk T flat) {k e : Nat} (hk : flat k = true) (he : flat e = true) : ∀ {es : List MapEntry} {m : List (A k × A e)}, MapRep T w av k e es m → MapRep T w av' k e es m
  | [], [], _ => trivial
  | x :: xs, p :: ps, hm => ⟨hm.1.plain hf hk, hm.2.1.plain hf he, MapRep.plain hf hk he hm.2.2⟩
  | [], _ :: _, hm => hm.elim
  | _ :: _, [], hm => hm.elim
theorem IV.plain_mono {flat : Nat → Bool} (hf : FlatOk T flat) : ∀ n,
    (∀ (x : IV A) v F, IV.plain flat n x = true → RIV T w av x v F → RIV T w av' x v F) ∧ (∀ (xs : List (IV A)) vs F, IV.plains flat n xs = true → RIVs T w av xs vs F → RIVs T w av' xs vs F) := by
  intro n
  induction n with
  | zero => exact ⟨fun x v F h => by simp [IV.plain] at h, fun xs vs F h => by simp [IV.plains] at h⟩
  | succ n ih =>
    refine ⟨fun x v F hp h => ?_, fun xs vs F hp h => ?_⟩
    · cases x <;> simp only [IV.plain] at hp <;> simp only [RIV] at h ⊢
      case undef => exact h
      case d x => exact ⟨h.1, h.2.plain hp⟩
      case arr e xs =>
        obtain ⟨ob, h1, h2, h3⟩ := h
        refine ⟨ob, h1, h2, fun b hb => ?_⟩
        obtain ⟨c, ty, h4, h5⟩ := h3 b hb
        refine ⟨c, ty, h4, fun i x hi j d hj => ?_⟩
        obtain ⟨u, hu, hd⟩ := h5 i x hi j d hj
        exact ⟨u, hu, hd.plain (hf e hp x d (List.mem_of_getElem? hj))⟩
      case agg cs => obtain ⟨vs, h1, h2⟩ := h; exact ⟨vs, h1, ih.2 _ _ _ hp h2⟩
      case tup cs => obtain ⟨vs, h1, h2⟩ := h; exact ⟨vs, h1, ih.2 _ _ _ hp h2⟩
      case fn f cs => obtain ⟨vs, h1, h2⟩ := h; exact ⟨vs, h1, ih.2 _ _ _ hp h2⟩
      case mp k e m =>
        rw [Bool.and_eq_true] at hp
        obtain ⟨b, es, clock, h1, h2, h3, h4⟩ := h
        exact ⟨b, es, clock, h1, h2, h3, h4.1.plain hf hp.1 hp.2, h4.2⟩
      case box cs => obtain ⟨b, c, ty, F', h1, h2, h3, h4⟩ := h; exact ⟨b, c, ty, F', h1, h2, h3, ih.2 _ _ _ hp h4⟩
    · cases xs with
      | nil => simpa [RIVs] using h
      | cons x xs =>
        simp only [IV.plains, Bool.and_eq_true] at hp
        simp only [RIVs] at h ⊢
        obtain ⟨v, vs', F1, F2, h1, h2, h3, h4⟩ := h
        exact ⟨v, vs', F1, F2, h1, h2, ih.1 _ _ _ hp.1 h3, ih.2 _ _ _ hp.2 h4⟩
theorem RIVs.back : ∀ {xs ys : List (IV A)} {vs : List Value} {F : List Nat}, RIVs T w av ys vs F → ∃ F', RIVs T w av (backIV xs ys) vs F' ∧ F'.Sublist F
  | [], ys, vs, F, h => ⟨F, by simpa [backIV] using h, .refl _⟩
  | x :: xs, [], vs, F, h => ⟨F, by simpa [backIV] using h, .refl _⟩
  | x :: xs, y :: ys, vs, F, h => by
    simp only [RIVs] at h
    obtain ⟨v, vs', F1, F2, rfl, rfl, h1, h2⟩ := h
    obtain ⟨F2', h3, h4⟩ := RIVs.back (xs := xs) h2
    have skip : RIVs T w av (.undef :: backIV xs ys) (v :: vs') F2' := by
      simp only [RIVs]
      exact ⟨v, vs', [], F2', rfl, rfl, by simp [RIV], h3⟩
    have keep : RIVs T w av (y :: backIV xs ys) (v :: vs') (F1 ++ F2') := by
      simp only [RIVs]
      exact ⟨v, vs', F1, F2', rfl, rfl, h1, h3⟩
    have hsub : F2'.Sublist (F1 ++ F2) := h4.trans (List.sublist_append_right _ _)
    have hsub2 : (F1 ++ F2').Sublist (F1 ++ F2) := List.Sublist.append_left h4 _
    cases x <;> simp only [backIV] <;> first | exact ⟨_, skip, hsub⟩ | exact ⟨_, keep, hsub2⟩
end Go.Am
