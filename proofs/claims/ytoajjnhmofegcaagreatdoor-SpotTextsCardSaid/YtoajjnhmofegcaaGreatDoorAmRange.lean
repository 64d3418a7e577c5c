/- Part of an abstract machine for this program, with its soundness: AmRange. No condition: lemmas for the claim. -/
import Derived.Test.YtoajjnhmofegcaaGreatDoorAmTab
import Derived.Laws.IdiomRangeMap
set_option linter.unusedVariables false
set_option linter.unusedSimpArgs false
namespace Go.Am
open Go
variable {A : Nat → Type}
def picks {α : Type} : List α → List (α × List α)
 | [] => []
 | x :: xs => (x, xs) :: (picks xs).map fun p => (p.1, x :: p.2)
open Classical in
noncomputable def pickAll {α R : Type} (l : List α) (over : Option R) (f : α → List α → Option R) : Option R :=
 match l with
 | [] => over
 | x :: xs => if h : ∃ r, ∀ p ∈ picks (x :: xs), f p.1 p.2 = some r then some h.choose else none
structure RangeP where
 idx : Nat
 ops : Array Oper
 it : Nat
 T : TypeId
 ms : Nat
 B : Nat
 idn : Nat
 opsN : Array Oper
 tn : Nat
 te : Nat
 C : Nat
 ide : Nat
 opsE : Array Oper
 tk : Nat
 rest : Code
def RangeP.body (p : RangeP) : Code := .seq (.region p.idn p.opsN false) (.seq (.cond (.tmp p.te) .skip (.exit p.B)) (.block p.C (.seq (.region p.ide p.opsE false) p.rest)))
abbrev PieceR (A : Nat → Type) := (tg k e : Nat) → (m left : List (A k × A e)) → St A → {R : Type} → (Ex → St A → Option R) → Option R
def pinE (E : Env A) (p : RangeP) : Env A := { E with pin := p.ms :: p.it :: E.pin }
def restoreM (p : RangeP) (tg : Nat) {k e : Nat} (m : List (A k × A e)) (S : St A) : St A :=
 match S.look tg, (S.fr[p.ms]?).getD .undef with
 | some (.gone kd), .mp t => if t = tg ∧ kd = (2, 0) then { S with st := S.st.set tg (some (.mp k e m)) } else S
 | _, _ => S
def leaveM (E : Env A) (p : RangeP) (tg : Nat) {k e : Nat} (m : List (A k × A e)) (ex : Ex) (S : St A) {R : Type} (K : Ex → St A → Option R) : Option R := canonAt (E.exitH p.idn) (restoreM p tg m S) fun S' => K ex S'
def swapIdx (ops : Array Oper) : List (Nat × Oper) := ops.toList.zipIdx.map fun (o, i) => (i, o)
noncomputable def roundR (E : Env A) (n : Nat) (p : RangeP) (tg k e : Nat) (m left : List (A k × A e)) (S : St A) {R : Type} (next : List (A k × A e) → St A → Option R) (K : Ex → St A → Option R) : Option R :=
 bif decide (p.tn < S.fr.length) && decide (p.te < S.fr.length) then
  pickAll left (leaveM E p tg m .normal ((S.put (some p.tn) .undef).put (some p.te) (.d (.bool false))) K)
   fun x l => regK (pinE E p) p.opsE.toList ((swapIdx p.opsE).drop 1) (((S.put (some p.tn) .undef).put (some p.te) (.d (.bool true))).put (some p.tk) (.tup [packAV E.T k x.1, packAV E.T e x.2])) fun S2 =>
    canonAt ((firstReg p.rest).bind E.seqH) S2 fun S3 =>
     aexec (pinE E p) n p.rest S3 fun ex S4 =>
      match ex with
      | .normal => canonAt (E.loopH p.idn) S4 fun S5 => next l S5
      | .exit i => if i = p.C then canonAt (E.loopH p.idn) S4 fun S5 => next l S5 else if i = p.B then leaveM E p tg m .normal S4 K else leaveM E p tg m (.exit i) S4 K
      | .ret => leaveM E p tg m .ret S4 K
 else none
end Go.Am
set_option linter.unusedVariables false
set_option linter.unusedSimpArgs false
namespace Go.Am
open Go
variable {A : Nat → Type}
variable {T : Ty A} {w0 w w' : World} {F0 : List Nat} {X : Nat → Prop} {γ γ' : Nat → Value} {φ φ' : Nat → List Nat} {av av' : Nat → Prop} {tmps : Array Value} {S S' : St A} {R : Type} {P : Program} {res : R}
end Go.Am
set_option linter.unusedVariables false
set_option linter.unusedSimpArgs false
namespace Go.Am
open Go
variable {A : Nat → Type}
variable {w0 w w' : World} {F0 : List Nat} {X : Nat → Prop} {γ γ' : Nat → Value} {φ φ' : Nat → List Nat} {av av' : Nat → Prop} {tmps : Array Value} {S S' : St A} {R : Type} {P : Program} {res : R}
def ROk (E : Env A) (CR : Nat → Option (PieceR A)) (n : Nat) (p : RangeP) : Prop := CutsOk (pinE E p) n p.rest ∧ ∀ f, CR p.idn = some f → ∃ (L : Nat → PieceR A) (j : Nat), f = L j ∧
 (∀ tg k e (m left : List (A k × A e)) S (R : Type) (K : Ex → St A → Option R), L 0 tg k e m left S K = none) ∧
 ∀ j tg k e (m left : List (A k × A e)) S, (∀ (R : Type) (K : Ex → St A → Option R), L (j + 1) tg k e m left S K = none) ∨ ∀ (R : Type) (K : Ex → St A → Option R), L (j + 1) tg k e m left S K = roundR E n p tg k e m left S (fun l S' => L j tg k e m l S' K) K
theorem MapRep.any {T : Ty A} {flat : Nat → Bool} (hf : FlatOk T flat) {k e : Nat} (hk : flat k = true) (he : flat e = true) : ∀ {es : List MapEntry} {m : List (A k × A e)}, MapRep T w av k e es m → MapRep T w' av' k e es m
 | [], [], _ => trivial
 | x :: xs, p :: ps, hm => by
  have pk : ∀ {t : Nat} (ht : flat t = true) {x : A t} {v : Value}, PackRep T w av t x v → PackRep T w' av' t x v := by
   intro t ht x v h
   obtain ⟨us, h1, h2, h3⟩ := h
   refine ⟨us, h1, h2, fun j d hj => ?_⟩
   obtain ⟨u, hu, hd⟩ := h3 j d hj
   exact ⟨u, hu, hd.plain (hf t ht x d (List.mem_of_getElem? hj))⟩
  exact ⟨pk hk hm.1, pk he hm.2.1, MapRep.any hf hk he hm.2.2⟩
 | [], _ :: _, hm => hm.elim
 | _ :: _, [], hm => hm.elim
end Go.Am
set_option linter.unusedVariables false
set_option linter.unusedSimpArgs false
namespace Go.Am
open Go
variable {A : Nat → Type}
def RangeL (E : Env A) (CR : Nat → Option (PieceR A)) (n : Nat) (l : List RangeP) : Prop := ∀ p ∈ l, ROk E CR n p
theorem RangeL.nil {E : Env A} {CR : Nat → Option (PieceR A)} {n : Nat} : RangeL E CR n [] := fun _ h => by cases h
theorem RangeL.cons {E : Env A} {CR : Nat → Option (PieceR A)} {n : Nat} {p : RangeP} {l : List RangeP} (h : ROk E CR n p) (t : RangeL E CR n l) : RangeL E CR n (p :: l) := by
 intro q hq
 rcases List.mem_cons.1 hq with rfl | hq
 ·exact h
 ·exact t q hq
def Whole (S B : Spec A) : Prop := ∀ args (R : Type) (k : IV A → List (IV A) → Option R) res, S args k = some res → ∃ p, B args (fun r ys => some (r, ys)) = some p ∧ k p.1 p.2 = some res
end Go.Am
