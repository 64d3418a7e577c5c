/- The plain law, in Lean alone: K. No condition: lemmas for the claim. -/
import Derived.Test.YtonhhbcacemaiaaGreatDoorF1
import Derived.Test.YtonhhbcacemaiaaGreatDoorF2
import Derived.Test.YtonhhbcacemaiaaGreatDoorF3
import Derived.Test.YtonhhbcacemaiaaGreatDoorF4
import Derived.Test.YtonhhbcacemaiaaGreatDoorF5
import Derived.Test.YtonhhbcacemaiaaGreatDoorF6
import Derived.Test.YtonhhbcacemaiaaGreatDoorF7
import Derived.Test.YtonhhbcacemaiaaGreatDoorF8
import Derived.Test.YtonhhbcacemaiaaGreatDoorF9
import Derived.Test.YtonhhbcacemaiaaGreatDoorF10
import Derived.Test.YtonhhbcacemaiaaGreatDoorPlB4
namespace Go.Am
open Go Go.Proofs
theorem lk_z51z (g : Nat) : @z51z_ g = @sIndexV Int Int g (fun x y => x == y) := by kernel_rfl
theorem li_z51z [Fuel] : @z51z _ = @sIndexV Int Int NN (fun x y => x == y) := lk_z51z NN
theorem lk_z8z (g : C_z8z) : @z8z_ g = @sIndexF G_Club G_Member g.N g.z14z := by kernel_rfl
theorem li_z8z [Fuel] : @z8z _ = @sIndexF G_Club G_Member NN (@z14z _) := lk_z8z I_z8z
theorem lk_z11z (g : C_z11z) : @z11z_ g = @sIndexF G_Row G_Row g.N g.band_May_1 := by kernel_rfl
theorem li_z11z [Fuel] : @z11z _ = @sIndexF G_Row G_Row NN (@band_May_1 _) := lk_z11z I_z11z
theorem lk_z7z (g : C_z7z) : @z7z_ g = @sIndexF (List UInt8) G_Member g.N g.z13z := by kernel_rfl
theorem li_z7z [Fuel] : @z7z _ = @sIndexF (List UInt8) G_Member NN (@z13z _) := lk_z7z I_z7z
theorem lk_z46z (g : Nat) : @z46z_ g = @sIndexV (List UInt8) (List UInt8) g (fun x y => x == y) := by kernel_rfl
theorem li_z46z [Fuel] : @z46z _ = @sIndexV (List UInt8) (List UInt8) NN (fun x y => x == y) := lk_z46z NN
theorem lk_z4z (g : C_z4z) : @z4z_ g = @sIndexF G_Club (List UInt8) g.N g.z10z := by kernel_rfl
theorem li_z4z [Fuel] : @z4z _ = @sIndexF G_Club (List UInt8) NN (@z10z _) := lk_z4z I_z4z
theorem lk_z3z (g : C_z3z) : @z3z_ g = @sIndexF (List UInt8) G_Member g.N g.z2z := by kernel_rfl
theorem li_z3z [Fuel] : @z3z _ = @sIndexF (List UInt8) G_Member NN (@z2z _) := lk_z3z I_z3z
theorem lm_get_string_Member : @mget_string_Member = @aget (List UInt8) G_Member keq_string := by kernel_rfl
theorem lm_set_string_Member : @mset_string_Member = @aset (List UInt8) G_Member keq_string := by kernel_rfl
theorem keq_string_is (x y : List UInt8) : keq_string x y = true ↔ x = y := by simp [keq_string]
end Go.Am
