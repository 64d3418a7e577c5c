/- Part of an abstract machine for this program, with its soundness: AmLight. No condition: lemmas for the claim. -/
import Derived.Test.YtnkoiigdcbjenaaGreatDoorAmNat
set_option linter.unusedVariables false
set_option linter.unusedSimpArgs false
namespace Go.Am
open Go
variable {A : Nat → Type} {R : Type}
variable (E : Env A) (look : Nat → Option (Ob A)) (ρ : Operand → AV A) (k : AV A → Upd A → List Nat → Option R)
theorem bif_some {α : Type} {b : Bool} {x : Option α} {p : α} (h : (bif b then x else none) = some p) : x = some p := by cases b with | true => exact h | false => cases h
theorem map_eq {ρ ρ' : Operand → AV A} {l : Array Operand} (h : ∀ x ∈ l, ρ x = ρ' x) : l.toList.map ρ = l.toList.map ρ' := List.map_congr_left (fun x hx => h x (by simpa using hx))
theorem omap_eq {ρ ρ' : Operand → AV A} {l : Option Operand} (h : ∀ x ∈ l.toArray, ρ x = ρ' x) : l.map ρ = l.map ρ' := by cases l <;> simp_all
theorem pmap_eq {ρ ρ' : Operand → AV A} {ps : Array (Nat × Operand)} (h : ∀ x ∈ (ps.toList.map (·.2)).toArray, ρ x = ρ' x) : (ps.toList.map fun p => (p.1, ρ p.2)) = ps.toList.map fun p => (p.1, ρ' p.2) :=
  List.map_congr_left (fun p hp => by rw [h p.2 (by simp; exact ⟨p.1, by simpa using hp⟩)])
theorem opK_congr {ρ ρ' : Operand → AV A} (o : Oper) (h : ∀ x ∈ o.op.operands, ρ x = ρ' x) : opK E look ρ k o = opK E look ρ' k o := by
  unfold opK
  cases ho : o.op <;> rw [ho] at h <;> simp only [Op.operands] at h <;> (try rfl)
  case move x => simp only [h x (by simp)]
  case assign x => simp only [h x (by simp)]
  case pick c a b => simp only [h c (by simp), h a (by simp), h b (by simp)]
  case box e x => simp only [h x (by simp)]
  case build t ps => simp only [pmap_eq h]
  case buildSlice t n ps => simp only [pmap_eq h]
  case load t a => simp only [h a (by simp)]
  case store t a x => simp only [h a (by simp), h x (by simp)]
  case nilCheck x => simp only [h x (by simp)]
  case binOp op t x y t' => simp only [h x (by simp), h y (by simp)]
  case unOp op t x => simp only [h x (by simp)]
  case convert s d x => simp only [h x (by simp)]
  case makeFunc f a c => simp only [map_eq (l := c) (fun x hx => h x (by simp [hx]))]
  case makeSlice t a c => simp only [h a (by simp), h c (by simp)]
  case slice t x lo hi mx => simp only [h x (by simp), omap_eq (l := lo) (fun x hx => h x (by simp at hx; simp [hx])), omap_eq (l := hi) (fun x hx => h x (by simp at hx; simp [hx]))]
  case fieldAddr s x f => simp only [h x (by simp)]
  case field s x f => simp only [h x (by simp)]
  case indexAddr t x i => simp only [h x (by simp), h i (by simp)]
  case index t x i => simp only [h x (by simp), h i (by simp)]
  case extract x i => simp only [h x (by simp)]
  case makeMap t r => cases r <;> rfl
  case lookup t x i ok => simp only [h x (by simp), h i (by simp)]
  case mapUpdate t x i y => simp only [h x (by simp), h i (by simp), h y (by simp)]
  case call c =>
    have ha : ∀ x ∈ c.args, ρ x = ρ' x := fun x hx => h x (by simp [Call.operands, hx])
    have hm := map_eq ha
    simp only
    cases hc : c.callee with
    | invoke r n => rfl
    | value f =>
      have hf : ρ f = ρ' f := h f (by simp [Call.operands, hc])
      simp only [hf, hm]
    | builtin b =>
      cases b <;> simp only
      case append => split <;> (try rfl); rename_i s x _ _ heq _; simp only [ha s (by rw [← Array.mem_toList_iff, heq]; simp), ha x (by rw [← Array.mem_toList_iff, heq]; simp)]
      case len => split <;> (try rfl); rename_i x _ heq _; simp only [ha x (by rw [← Array.mem_toList_iff, heq]; simp)]
      case clear => split <;> (try rfl); rename_i x _ heq _; simp only [ha x (by rw [← Array.mem_toList_iff, heq]; simp)]
      case delete => split <;> (try rfl); rename_i x y _ _ heq _; simp only [ha x (by rw [← Array.mem_toList_iff, heq]; simp), ha y (by rw [← Array.mem_toList_iff, heq]; simp)]
      case max =>
        cases hx : c.args.toList with
        | nil => rfl
        | cons x r => rw [hx] at hm; simp only [List.map_cons, List.cons.injEq] at hm; simp only [hm.1, hm.2]
      case min =>
        cases hx : c.args.toList with
        | nil => rfl
        | cons x r => rw [hx] at hm; simp only [List.map_cons, List.cons.injEq] at hm; simp only [hm.1, hm.2]
theorem boxable_mono {look look' : Nat → Option (Ob A)} (hm : ∀ t ob, look t = some ob → look' t = some ob) {x : AV A} (h : boxable look x = true) : boxable look' x = true := by
  have hs : ∀ t, (look t).isSome = true → (look' t).isSome = true := fun t ht => by
    obtain ⟨ob, ho⟩ := Option.isSome_iff_exists.1 ht
    rw [hm t ob ho]; rfl
  cases x <;> simp only [boxable, oneB] at h ⊢ <;> first | exact hs _ h | exact h | (rename_i d; cases d <;> exact h)
theorem fillS_mono {look look' : Nat → Option (Ob A)} (hm : ∀ t ob, look t = some ob → look' t = some ob) {place : Nat → Option (Nat × Nat)} : ∀ {parts : List (Nat × AV A)} {cs cs' : List (AV A)},
    fillS look place cs parts = some cs' → fillS look' place cs parts = some cs'
  | [], cs, cs', h => by simpa [fillS] using h
  | (i, v) :: r, cs, cs', h => by
    simp only [fillS] at h ⊢
    cases hp : place i with
    | none => simp [hp] at h
    | some p =>
      obtain ⟨off, size⟩ := p
      simp only [hp] at h ⊢
      split at h
      · rename_i hc
        rw [if_pos ⟨hc.1, hc.2.1, boxable_mono hm hc.2.2⟩]
        exact fillS_mono hm h
      · cases h
theorem builtAV_mono {look look' : Nat → Option (Ob A)} (hm : ∀ t ob, look t = some ob → look' t = some ob) {t : TypeId} {parts : List (Nat × AV A)} {cs : List (AV A)}
    (h : builtAV E.P look t parts = some cs) : builtAV E.P look' t parts = some cs := by
  unfold builtAV at h ⊢
  split at h
  · split at h
    · exact fillS_mono hm h
    · cases h
  · split at h
    · exact fillS_mono hm h
    · cases h
  · cases h
theorem light_mono {look look' : Nat → Option (Ob A)} {o : Oper} {p : O3 A} (hl : lightOp o.op = true) (hm : readerOp o.op = true → ∀ t ob, look t = some ob → look' t = some ob)
    (hu : p.2.1 = []) (h : opK E look ρ ret3 o = some p) : opK E look' ρ ret3 o = some p := by
  unfold opK at h ⊢
  cases ho : o.op <;> rw [ho] at hl hm <;> simp only [lightOp] at hl <;> (try cases hl) <;> simp only [ho] at h ⊢ <;> (try exact h) <;> replace hm := hm rfl
  case build t ps =>
    cases hb : builtAV E.P look t (ps.toList.map fun p => (p.1, ρ p.2)) with
    | none => simp [hb] at h
    | some cs => rw [builtAV_mono E hm hb]; rwa [hb] at h
  case nilCheck x =>
    cases hx : ρ x <;> simp only [hx] at h ⊢ <;> (try exact h) <;> (try (rename_i d; cases d <;> exact h))
    case ptr t off => cases hg : look t with
      | none => simp [hg] at h
      | some ob => rw [hm t ob hg]; rwa [hg] at h
    case elp e t i off => cases hg : look t with
      | none => simp [hg] at h
      | some ob => rw [hm t ob hg]; rwa [hg] at h
  case load t a =>
    cases hx : ρ a <;> simp only [hx] at h ⊢ <;> (try exact h)
    case ptr t off => cases hg : look t with
      | none => simp [hg] at h
      | some ob => rw [hm t ob hg]; rwa [hg] at h
    case elp e t i off => cases hg : look t with
      | none => simp [hg] at h
      | some ob => rw [hm t ob hg]; rwa [hg] at h
  case fieldAddr s x f =>
    cases hf : fieldOff E.P s f with
    | none => simp [hf] at h
    | some q =>
      simp only [hf] at h ⊢
      cases hx : ρ x <;> simp only [hx] at h ⊢ <;> (try exact h) <;> (try (rename_i d; cases d <;> exact h))
      case ptr t off => cases hg : look t with
        | none => simp [hg] at h
        | some ob => rw [hm t ob hg]; rwa [hg] at h
      case elp e t i off => cases hg : look t with
        | none => simp [hg] at h
        | some ob => rw [hm t ob hg]; rwa [hg] at h
  case slice t x lo hi mx =>
    cases mx with
    | some m => simp at h
    | none =>
      cases hx : ρ x <;> simp only [hx] at h ⊢ <;> (try exact h) <;> (try (rename_i d; cases d <;> exact h))
      case own e t => cases hg : look t with
        | none => exfalso; rw [hg] at h; split at h <;> cases h
        | some ob =>
          rw [hg] at h
          rw [hm t ob hg]
          split at h
          · exfalso
            split at h
            · split at h
              · replace h := bif_some h
                cases h
                cases hu
              · cases h
            · cases h
          · exact h
          · exact h
  case indexAddr t x i =>
    split at h
    · rename_i e n _ _ he hi
      split at h
      · rename_i hc
        rw [if_pos hc]
        cases hx : ρ x <;> simp only [hx] at h ⊢ <;> (try exact h) <;> (try (rename_i d; cases d <;> exact h))
        case own e t => cases hg : look t with
          | none => simp [hg] at h
          | some ob => rw [hm t ob hg]; rwa [hg] at h
        case vw e t lo hi => cases hg : look t with
          | none => simp [hg] at h
          | some ob => rw [hm t ob hg]; rwa [hg] at h
      · cases h
    · cases h
  case call c =>
    cases hc : c.callee with
    | invoke r n => simp [hc] at hl
    | value f => simp [hc] at hl
    | builtin b =>
      cases b <;> simp only [hc] at hl <;> (try cases hl)
      simp only [hc] at h ⊢
      split at h
      · rename_i x t _ _
        have hlen : ∀ q, lenAV look (ρ x) = some q → lenAV look' (ρ x) = some q := by
          intro q hq
          cases hx : ρ x <;> simp only [hx, lenAV] at hq ⊢ <;> (try exact hq) <;> (try (rename_i d; cases d <;> exact hq))
          case own e t => cases hg : look t with
            | none => simp [hg] at hq
            | some ob => rw [hm t ob hg]; rwa [hg] at hq
          case vw e t lo hi => cases hg : look t with
            | none => simp [hg] at hq
            | some ob => rw [hm t ob hg]; rwa [hg] at hq
          case mp t => cases hg : look t with
            | none => simp [hg] at hq
            | some ob => rw [hm t ob hg]; rwa [hg] at hq
        cases hq : lenAV look (ρ x) with
        | none => simp [hq] at h
        | some q => rw [hlen q hq]; rwa [hq] at h
      · cases h
end Go.Am
