/- The plain law, in Lean alone: D1, D2, D3. No condition: lemmas for the claim. -/
import Derived.Test.YtonhhbcacemaiaaGreatDoorPlS1
import Derived.Test.YtonhhbcacemaiaaGreatDoorPlB4
import Derived.Test.YtonhhbcacemaiaaGreatDoorPlK
set_option linter.unusedVariables false
set_option linter.unusedSectionVars false
set_option linter.unusedSimpArgs false
set_option maxRecDepth 100000
namespace Go.Am
open Go Go.Proofs
variable [Fuel]
end Go.Am
set_option linter.unusedVariables false
set_option linter.unusedSectionVars false
set_option linter.unusedSimpArgs false
set_option maxRecDepth 100000
namespace Go.Am
open Go Go.Proofs
variable [Fuel]
noncomputable def baseB (s : List UInt8) : List UInt8 := (z73z s some).getD []
def okStr (a b : Option (List UInt8)) : Bool := match a, b with | some x, some y => x == y && decide (x.length ≤ 100) | _, _ => false
theorem okStr_is {a b : Option (List UInt8)} (h : okStr a b = true) : a = some (a.getD []) ∧ b = some (a.getD []) ∧ (a.getD []).length ≤ 100 := by
 unfold okStr at h
 split at h
 ·simp at h; obtain ⟨rfl, h⟩ := h; exact ⟨rfl, rfl, h⟩
 ·cases h
theorem someStr_is {a : Option (List UInt8)} (h : a.isSome = true) : a = some (a.getD []) := by
 cases a with
 | none => cases h
 | some x => rfl
theorem basesI_ok : callsL.all (fun s => (z73z s some).isSome) = true := by
 obtain ⟨m, h, rfl⟩ := fuel_is ‹Fuel›
 kernel_rfl
theorem bases_ok : callsL.all (fun s => okStr (z73z s some) (Q_BaseOf s some)) = true := by
 obtain ⟨m, h, rfl⟩ := fuel_is ‹Fuel›
 kernel_rfl
theorem z73z_is {s : List UInt8} (h : s ∈ callsL) (R : Type) (k : List UInt8 → Option R) : z73z s k = k (baseB s) :=
 nat_str ok_z73z.na (args := [.d (.str s)]) (F := @z73z _ s) (fun _ _ => rfl) (someStr_is (List.all_eq_true.1 basesI_ok s h)) R k
theorem Q_BaseOf_is {s : List UInt8} (h : s ∈ callsL) (R : Type) (k : List UInt8 → Option R) : Q_BaseOf s k = k (baseB s) :=
 nat_str ok_Q_BaseOf.na (args := [.d (.str s)]) (F := @Q_BaseOf _ s) (fun _ _ => rfl) (okStr_is (List.all_eq_true.1 bases_ok s h)).2.1 R k
end Go.Am
set_option linter.unusedVariables false
set_option linter.unusedSectionVars false
set_option linter.unusedSimpArgs false
set_option maxRecDepth 100000
namespace Go.Am
open Go Go.Proofs
variable [Fuel]
theorem strOk_is {a b : List UInt8} (h : a.length + b.length ≤ 1000) : strOk a b = true := by
 unfold strOk
 exact decide_eq_true (by omega)
end Go.Am
