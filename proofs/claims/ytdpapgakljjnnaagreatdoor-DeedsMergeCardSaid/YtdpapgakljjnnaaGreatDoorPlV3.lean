/- The plain law, in Lean alone: V3. No condition: lemmas for the claim. -/
import Derived.Test.YtdpapgakljjnnaaGreatDoorPlV1
import Derived.Test.YtdpapgakljjnnaaGreatDoorPlB4
set_option linter.unusedVariables false
set_option linter.unusedSectionVars false
set_option linter.unusedSimpArgs false
set_option maxRecDepth 100000
namespace Go.Am
open Go Go.Proofs
variable [Fuel]
theorem catD_is {a b : List G_Deed} (ha : a.length ≤ 100000) (hb : b.length ≤ 100000) (R : Type) (k : List G_Deed → Option R) : z13z [a, b] k = k (a ++ b) := by
 rw [li_z13z]; exact sCat_two a b ha hb (by omega) (by have := NN_ok; omega) k
theorem cloneD_is {l : List G_Deed} (hl : l.length ≤ 1000000) (R : Type) (k : List G_Deed → Option R) : z33z l k = k l := X_clone_is l hl (by omega) k
theorem equalD_is {l : List G_Deed} (hl : l.length ≤ 1000000) (R : Type) (k : Bool → Option R) : z11z l l k = k true := by
 rw [li_z11z]; exact sEqual_same (by have := NN_ok; omega) (by have := NN_ok; omega) (fun x => by rw [(eq_G_Deed_is x x).2 rfl]; rfl) k
theorem lk_revJ (g : Nat) : @z30z_ g = @sRev Int g := by kernel_rfl
end Go.Am
