/- Part of an abstract machine for this program, with its soundness: AmTab. No condition: lemmas for the claim. -/
import Derived.Test.YthfphbbhjodbcaaGreatDoorAmLoop
set_option linter.unusedVariables false
set_option linter.unusedSimpArgs false
namespace Go.Am
open Go
variable {A : Nat → Type}
def TabL (P : Program) (T : Ty A) (l : List (Nat × Spec A)) : Prop := ∀ p ∈ l, FnSound P T p.1 p.2 ∧ Enters P p.1
theorem TabL.nil {P : Program} {T : Ty A} : TabL P T [] := fun _ h => by cases h
theorem TabL.cons {P : Program} {T : Ty A} {f : Nat} {s : Spec A} {l : List (Nat × Spec A)} (h : FnSound P T f s) (he : Enters P f) (t : TabL P T l) : TabL P T ((f, s) :: l) := by
  intro p hp
  rcases List.mem_cons.1 hp with rfl | hp
  · exact ⟨h, he⟩
  · exact t p hp
def NatL (l : List (Nat × Spec A)) : Prop := ∀ p ∈ l, NatSpec p.2
theorem NatL.nil : NatL ([] : List (Nat × Spec A)) := fun _ h => by cases h
theorem NatL.cons {f : Nat} {s : Spec A} {l : List (Nat × Spec A)} (h : NatSpec s) (t : NatL l) : NatL ((f, s) :: l) := by
  intro p hp
  rcases List.mem_cons.1 hp with rfl | hp
  · exact h
  · exact t p hp
def FineL (E : Env A) (n : Nat) (bs : List Code) : Prop := ∀ b ∈ bs, LoopFine E n b
theorem FineL.nil {E : Env A} {n : Nat} : FineL E n [] := fun _ h => by cases h
theorem FineL.cons {E : Env A} {n : Nat} {b : Code} {bs : List Code} (h : LoopFine E n b) (t : FineL E n bs) : FineL E n (b :: bs) := by
  intro c hc
  rcases List.mem_cons.1 hc with rfl | hc
  · exact h
  · exact t c hc
theorem lookup_no {β : Type 1} {i : Nat} : ∀ {l : List (Nat × β)}, (l.map (·.1)).contains i = false → l.lookup i = none
  | [], _ => rfl
  | (a, b) :: l, h => by
    simp only [List.map_cons, List.contains_cons, Bool.or_eq_false_iff] at h
    simp only [List.lookup_cons, h.1]
    exact lookup_no h.2
def SeqL (E : Env A) (n : Nat) (bs : List Code) : Prop := ∀ b ∈ bs, SeqFine E n b
theorem SeqL.nil {E : Env A} {n : Nat} : SeqL E n [] := fun _ h => by cases h
theorem SeqL.cons {E : Env A} {n : Nat} {b : Code} {bs : List Code} (h : SeqFine E n b) (t : SeqL E n bs) : SeqL E n (b :: bs) := by
  intro c hc
  rcases List.mem_cons.1 hc with rfl | hc
  · exact h
  · exact t c hc
theorem fine_of {E : Env A} {n : Nat} {b : Code} (L : Nat → Piece A) (he : (firstReg b).bind E.cutL = some (L n)) (hC : NatTab E.C) (hc : CutsOk E n b)
    (h0 : ∀ (R : Type) S (K : Ex → St A → Option R), L 0 S K = none)
    (hs : ∀ m S, (∀ (R : Type) (K : Ex → St A → Option R), L (m + 1) S K = none) ∨ ∀ (R : Type) (K : Ex → St A → Option R), L (m + 1) S K =
      around (fun S _ K => aexec E n b S K) ((firstReg b).bind E.loopH) ((firstReg b).bind E.exitH) S (fun e S' => match e with | .normal => L m S' K | e => K e S')) : LoopFine E n b := by
  intro f hf
  rw [he] at hf
  obtain rfl := Option.some.inj hf
  have h := loop_ok (body := around (fun S _ K => aexec E n b S K) ((firstReg b).bind E.loopH) ((firstReg b).bind E.exitH)) (around_nat (fun R S K => aexec_nat E hC n b hc R S K) _ _) h0 hs n
  exact ⟨h.1, fun S p hp => ⟨n, h.2 S p hp⟩⟩
def Same (S B : Spec A) : Prop := ∀ args, (∀ (R : Type) (k : IV A → List (IV A) → Option R), S args k = none) ∨ ∀ (R : Type) (k : IV A → List (IV A) → Option R), S args k = B args k
theorem fs_of {P : Program} {T : Ty A} (E : Env A) (hP : E.P = P) (hT : E.T = T) (hE : EnvOk E) (hC : NatTab E.C) (hm : P.follows .mixedOrders = true) {f : Nat} {fn : Func} {code : Code} (hf : P.funcs[f]? = some fn) (hb : fn.body = some code)
    (nst : Nat) (tags : List Nat) (sh : List Shape) (n : Nat) (hcut : CutsOk E n code) {S : Spec A} (h : Same S (abody E fn code nst tags sh n)) : FnSound P T f S := by
  subst hP hT
  intro args R k res hk
  rcases h args with h | h
  · rw [h] at hk; cases hk
  · rw [h] at hk
    exact abody_sound E hE hC hm hf hb nst tags sh n hcut args R k res hk
theorem na_of (E : Env A) (hC : NatTab E.C) (fn : Func) (code : Code) (nst : Nat) (tags : List Nat) (sh : List Shape) (n : Nat) (hcut : CutsOk E n code) {S : Spec A} (h : Same S (abody E fn code nst tags sh n)) : NatSpec S := by
  intro args R k
  rcases h args with h | h
  · rw [h, h]; rfl
  · rw [h, h]
    exact abody_nat E hC fn code nst tags sh n hcut args R k
def orS (p : List (IV A) → Bool) (s t : Spec A) : Spec A := fun args _ k => bif p args then s args k else t args k
theorem fs_or {P : Program} {T : Ty A} {f : Nat} {p : List (IV A) → Bool} {s t : Spec A} (hs : FnSound P T f s) (ht : FnSound P T f t) : FnSound P T f (orS p s t) := by
  intro args R k res hk
  unfold orS at hk
  cases hp : p args with
  | true => rw [hp] at hk; exact hs args R k res hk
  | false => rw [hp] at hk; exact ht args R k res hk
theorem na_or {p : List (IV A) → Bool} {s t : Spec A} (hs : NatSpec s) (ht : NatSpec t) : NatSpec (orS p s t) := by
  intro args R k
  unfold orS
  cases p args with
  | true => exact hs args R k
  | false => exact ht args R k
end Go.Am
