/- The plain law, in Lean alone: D1, D2. No condition: lemmas for the claim. -/
import Derived.Test.YtkcbebmbmffkjaaGreatDoorPlS1
import Derived.Test.YtkcbebmbmffkjaaGreatDoorPlB4
import Derived.Test.YtkcbebmbmffkjaaGreatDoorPlK
set_option linter.unusedVariables false
set_option linter.unusedSectionVars false
set_option linter.unusedSimpArgs false
set_option maxRecDepth 100000
namespace Go.Am
open Go Go.Proofs
variable [Fuel]
end Go.Am
set_option linter.unusedVariables false
set_option linter.unusedSectionVars false
set_option linter.unusedSimpArgs false
set_option maxRecDepth 100000
namespace Go.Am
open Go Go.Proofs
variable [Fuel]
noncomputable def baseB (s:List UInt8):List UInt8:=(z106z s some).getD []
def okStr (a b:Option (List UInt8)):Bool:=match a,b with | some x,some y=>x == y && decide (x.length≤100) | _,_=>false
theorem yHBy {a b:Option (List UInt8)} (h:okStr a b = true):a = some (a.getD [])∧b = some (a.getD [])∧(a.getD []).length≤100:=by
 unfold okStr at h
 split at h
 ·simp at h; obtain ⟨rfl,h⟩:=h; exact ⟨rfl,rfl,h⟩
 ·cases h
theorem yDNy {a:Option (List UInt8)} (h:a.isSome = true):a = some (a.getD []):=by
 cases a with
 | none=>cases h
 | some x=>rfl
theorem yF8y:yc8y.all (fun s=>(z106z s some).isSome) = true:=by
 obtain ⟨m,h,rfl⟩:=ycLy ‹Fuel›
 kernel_rfl
theorem yJay:yc8y.all (fun s=>okStr (z106z s some) (Q_BaseOf s some)) = true:=by
 obtain ⟨m,h,rfl⟩:=ycLy ‹Fuel›
 kernel_rfl
theorem z106z_is {s:List UInt8} (h:s ∈ yc8y) (R:Type) (k:List UInt8→Option R):z106z s k = k (baseB s) :=
 yBmy yqYy.na (args:=[.d (.str s)]) (F:=@z106z _ s) (fun _ _=>rfl) (yDNy (List.all_eq_true.1 yF8y s h)) R k
theorem yqGy {s:List UInt8} (h:s ∈ yc8y) (R:Type) (k:List UInt8→Option R):Q_BaseOf s k = k (baseB s) :=
 yBmy yqcy.na (args:=[.d (.str s)]) (F:=@Q_BaseOf _ s) (fun _ _=>rfl) (yHBy (List.all_eq_true.1 yJay s h)).2.1 R k
end Go.Am
