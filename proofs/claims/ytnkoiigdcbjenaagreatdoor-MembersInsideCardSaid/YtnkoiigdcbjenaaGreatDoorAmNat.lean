/- Part of an abstract machine for this program, with its soundness: AmNat. No condition: lemmas for the claim. -/
import Derived.Test.YtnkoiigdcbjenaaGreatDoorAmStep
set_option linter.unusedVariables false
set_option linter.unusedSimpArgs false
namespace Go.Am
open Go
variable {A : Nat → Type} {R : Type}
def NatSpec (s : Spec A) : Prop := ∀ args (R : Type) (k : IV A → List (IV A) → Option R), s args k = (s args (fun r ys => some (r, ys))).bind fun p => k p.1 p.2
def NatTab (C : Table A) : Prop := ∀ f s, C f = some s → NatSpec s
abbrev O3 (A : Nat → Type) := AV A × Upd A × List Nat
def ret3 (v : AV A) (u : Upd A) (ts : List Nat) : Option (O3 A) := some (v, u, ts)
variable (E : Env A) (look : Nat → Option (Ob A)) (ρ : Operand → AV A) (k : AV A → Upd A → List Nat → Option R)
theorem cond_bind {α β : Type} (c : Bool) (x y : Option α) (f : α → Option β) : (bif c then x else y).bind f = bif c then x.bind f else y.bind f := by cases c <;> rfl
theorem ite_bind {α β : Type} (c : Prop) [Decidable c] (x y : Option α) (f : α → Option β) : (if c then x else y).bind f = if c then x.bind f else y.bind f := by split <;> rfl
theorem ret3_bind (v : AV A) (u : Upd A) (ts : List Nat) (f : O3 A → Option R) : (ret3 v u ts).bind f = f (v, u, ts) := rfl
theorem sliceK_nat (x : AV A) (lo hi : Option (AV A)) : sliceK k x lo hi = (sliceK ret3 x lo hi).bind fun p => k p.1 p.2.1 p.2.2 := by
  unfold sliceK
  split <;> simp only [cond_bind, ret3_bind, Option.bind_none]
theorem sliceK_nat' (g : AV A → Upd A → List Nat → O3 A) (x : AV A) (lo hi : Option (AV A)) :
    sliceK (fun v u ts => k (g v u ts).1 (g v u ts).2.1 (g v u ts).2.2) x lo hi = (sliceK (fun v u ts => ret3 (g v u ts).1 (g v u ts).2.1 (g v u ts).2.2) x lo hi).bind fun p => k p.1 p.2.1 p.2.2 := by
  rw [sliceK_nat (R := R), sliceK_nat (R := O3 A) (fun v u ts => ret3 (g v u ts).1 (g v u ts).2.1 (g v u ts).2.2), Option.bind_assoc]
  rfl
theorem appendK_nat (tags : List Nat) (sT : Nat) (z : Bool) (s x : AV A) : appendK E look k tags sT z s x = (appendK E look ret3 tags sT z s x).bind fun p => k p.1 p.2.1 p.2.2 := by
  unfold appendK
  repeat' (first | rfl | simp only [cond_bind, ret3_bind, Option.bind_none, ite_bind] | split)
theorem callK_nat (hC : NatTab E.C) (tags : List Nat) (f : Nat) (caps args : List (AV A)) : callK E look k tags f caps args = (callK E look ret3 tags f caps args).bind fun p => k p.1 p.2.1 p.2.2 := by
  unfold callK
  cases hs : E.C f with
  | none => rfl
  | some spec =>
    cases hh : handArgs look (E.mode f) 0 (args ++ caps) with
    | none => rfl
    | some p =>
      obtain ⟨xs, ts, lent⟩ := p
      simp only [ite_bind, Option.bind_none]
      split
      · rw [hC f spec hs, hC f spec hs xs (O3 A)]
        cases spec xs (fun r ys => some (r, ys)) with
        | none => rfl
        | some q =>
          simp only [Option.bind_some]
          repeat' (first | rfl | simp only [cond_bind, ret3_bind, Option.bind_none, ite_bind] | split)
      · rfl
theorem wrapK_nat (tags : List Nat) (f1 : Nat) (mp : Bool) (vs : List (AV A)) : wrapK look k tags f1 mp vs = (wrapK look ret3 tags f1 mp vs).bind fun p => k p.1 p.2.1 p.2.2 := by
  unfold wrapK
  repeat' (first | rfl | simp only [cond_bind, ret3_bind, Option.bind_none, ite_bind] | split)
theorem callS_nat (hC : NatTab E.C) (tags : List Nat) (f : Nat) (caps args : List (AV A)) : callS E look k tags f caps args = (callS E look ret3 tags f caps args).bind fun p => k p.1 p.2.1 p.2.2 := by
  unfold callS
  cases E.sp f with
  | none => exact callK_nat _ _ _ hC _ _ _ _
  | some s =>
    cases s with
    | wrap f1 mp => exact wrapK_nat _ _ _ _ _ _
    | keys f1 kk srt =>
      simp only
      cases keysOf look f1 kk (args ++ caps) with
      | none => rfl
      | some p =>
        obtain ⟨tB, t, ks⟩ := p
        simp only
        cases srt ks with
        | none => rfl
        | some xs =>
          simp only
          have hn : NatTab (E.giving kk xs).C := fun g s hg => by
            simp only [Env.giving, Option.some.injEq] at hg
            subst hg
            exact fun _ _ _ => rfl
          rw [callK_nat _ _ _ hn, callK_nat _ _ (fun v u ts => ret3 v u (tB :: t :: ts)) hn, Option.bind_assoc]
          rfl
theorem opK_nat (hC : NatTab E.C) (o : Oper) : opK E look ρ k o = (opK E look ρ ret3 o).bind fun p => k p.1 p.2.1 p.2.2 := by
  unfold opK
  cases o.op <;> simp only <;> (repeat' (first | rfl | simp only [cond_bind, ret3_bind, Option.bind_none, ite_bind, Option.bind_assoc] | exact sliceK_nat _ _ _ _ | exact sliceK_nat' _ (fun v u ts => (v, _ :: u, _ :: ts)) _ _ _ | exact sliceK_nat' _ (fun v u ts => (v, u, _ :: ts)) _ _ _ | exact appendK_nat _ _ _ _ _ _ _ _ | exact callS_nat _ _ _ hC _ _ _ _ | split))
end Go.Am
