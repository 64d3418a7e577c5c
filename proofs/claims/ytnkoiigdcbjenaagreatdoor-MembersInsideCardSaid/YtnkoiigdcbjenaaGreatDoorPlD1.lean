/- The plain law, in Lean alone: D1, D2. No condition: lemmas for the claim. -/
import Derived.Test.YtnkoiigdcbjenaaGreatDoorPlS1
import Derived.Test.YtnkoiigdcbjenaaGreatDoorPlB4
import Derived.Test.YtnkoiigdcbjenaaGreatDoorPlK
set_option linter.unusedVariables false
set_option linter.unusedSectionVars false
set_option linter.unusedSimpArgs false
set_option maxRecDepth 100000
namespace Go.Am
open Go Go.Proofs
variable [Fuel]
end Go.Am
set_option linter.unusedVariables false
set_option linter.unusedSectionVars false
set_option linter.unusedSimpArgs false
set_option maxRecDepth 100000
namespace Go.Am
open Go Go.Proofs
variable [Fuel]
noncomputable def baseB (s : List UInt8) : List UInt8 := (call_BaseOf s some).getD []
def okStr (a b : Option (List UInt8)) : Bool := match a, b with | some x, some y => x == y && decide (x.length ≤ 100) | _, _ => false
theorem okStr_is {a b : Option (List UInt8)} (h : okStr a b = true) : a = some (a.getD []) ∧ b = some (a.getD []) ∧ (a.getD []).length ≤ 100 := by
  unfold okStr at h
  split at h
  · simp at h; obtain ⟨rfl, h⟩ := h; exact ⟨rfl, rfl, h⟩
  · cases h
theorem bases_ok : callsL.all (fun s => okStr (call_BaseOf s some) (Q_BaseOf s some)) = true := by
  obtain ⟨m, h, rfl⟩ := fuel_is ‹Fuel›
  kernel_rfl
theorem call_BaseOf_is {s : List UInt8} (h : s ∈ callsL) (R : Type) (k : List UInt8 → Option R) : call_BaseOf s k = k (baseB s) :=
  nat_str ok_call_BaseOf.na (args := [.d (.str s)]) (F := @call_BaseOf _ s) (fun _ _ => rfl) (okStr_is (List.all_eq_true.1 bases_ok s h)).1 R k
theorem Q_BaseOf_is {s : List UInt8} (h : s ∈ callsL) (R : Type) (k : List UInt8 → Option R) : Q_BaseOf s k = k (baseB s) :=
  nat_str ok_Q_BaseOf.na (args := [.d (.str s)]) (F := @Q_BaseOf _ s) (fun _ _ => rfl) (okStr_is (List.all_eq_true.1 bases_ok s h)).2.1 R k
end Go.Am
