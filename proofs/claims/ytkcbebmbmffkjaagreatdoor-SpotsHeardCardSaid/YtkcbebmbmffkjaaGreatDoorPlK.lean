/- The plain law, in Lean alone: K. No condition: lemmas for the claim. -/
import Derived.Test.YtkcbebmbmffkjaaGreatDoorF1
import Derived.Test.YtkcbebmbmffkjaaGreatDoorF2
import Derived.Test.YtkcbebmbmffkjaaGreatDoorF3
import Derived.Test.YtkcbebmbmffkjaaGreatDoorF4
import Derived.Test.YtkcbebmbmffkjaaGreatDoorF5
import Derived.Test.YtkcbebmbmffkjaaGreatDoorF6
import Derived.Test.YtkcbebmbmffkjaaGreatDoorF7
import Derived.Test.YtkcbebmbmffkjaaGreatDoorF8
import Derived.Test.YtkcbebmbmffkjaaGreatDoorF9
import Derived.Test.YtkcbebmbmffkjaaGreatDoorF10
import Derived.Test.YtkcbebmbmffkjaaGreatDoorF11
import Derived.Test.YtkcbebmbmffkjaaGreatDoorPlB4
namespace Go.Am
open Go Go.Proofs
theorem lk_z8z (g : C_z8z) : @z8z_ g = @sIns G_Spot g.N g.z10z := by kernel_rfl
theorem li_z8z [Fuel] : @z8z _ = @sIns G_Spot NN (@z10z _) := lk_z8z I_z8z
theorem lk_z6z (g : C_z6z) : @z6z_ g = @sSta G_Spot g.N g.z8z := by kernel_rfl
theorem li_z6z [Fuel] : @z6z _ = @sSta G_Spot NN (@z8z _) := lk_z6z I_z6z
theorem lk_z26z (g : Nat) : @z26z_ g = @sComp G_Spot g (⟨0, 0, [], []⟩ : G_Spot) (fun x y {_} k => k (eq_G_Spot x y)) := by kernel_rfl
theorem li_z26z [Fuel] : @z26z _ = @sComp G_Spot NN (⟨0, 0, [], []⟩ : G_Spot) (fun x y {_} k => k (eq_G_Spot x y)) := lk_z26z NN
theorem lk_z23z (g : C_z23z) : @z23z_ g = @sCat G_Spot g.N 48 g.z79z := by kernel_rfl
theorem li_z23z [Fuel] : @z23z _ = @sCat G_Spot NN 48 (X_grow 48) := lk_z23z I_z23z
theorem lk_z15z (g : C_z15z) : @z15z_ g = @sIndexF G_Band G_Band g.N g.z22z := by kernel_rfl
theorem li_z15z [Fuel] : @z15z _ = @sIndexF G_Band G_Band NN (@z22z _) := lk_z15z I_z15z
theorem lk_z19z (g : C_z19z) : @z19z_ g = @sIndexF G_Band Int g.N g.log_At_1 := by kernel_rfl
theorem li_z19z [Fuel] : @z19z _ = @sIndexF G_Band Int NN (@log_At_1 _) := lk_z19z I_z19z
theorem lk_z16z (g : C_z16z) : @z16z_ g = @sIndexF G_Band (List UInt8) g.N g.z41z := by kernel_rfl
theorem li_z16z [Fuel] : @z16z _ = @sIndexF G_Band (List UInt8) NN (@z41z _) := lk_z16z I_z16z
theorem lk_z20z (g : Nat) : @z20z_ g = @sEqual G_Spot g (fun x y => !(eq_G_Spot x y)) := by kernel_rfl
theorem li_z20z [Fuel] : @z20z _ = @sEqual G_Spot NN (fun x y => !(eq_G_Spot x y)) := lk_z20z NN
theorem lk_z24z (g : Nat) : @z24z_ g = @sEqual G_Pair g (fun x y => !(eq_G_Pair x y)) := by kernel_rfl
theorem li_z24z [Fuel] : @z24z _ = @sEqual G_Pair NN (fun x y => !(eq_G_Pair x y)) := lk_z24z NN
theorem lk_z59z (g : Nat) : @z59z_ g = @sIndexV Int Int g (fun x y => x == y) := by kernel_rfl
theorem li_z59z [Fuel] : @z59z _ = @sIndexV Int Int NN (fun x y => x == y) := lk_z59z NN
theorem lk_z18z (g : C_z18z) : @z18z_ g = @sIndexF G_Row G_Row g.N g.band_May_1 := by kernel_rfl
theorem li_z18z [Fuel] : @z18z _ = @sIndexF G_Row G_Row NN (@band_May_1 _) := lk_z18z I_z18z
theorem lk_z45z (g : Nat) : @z45z_ g = @sEqualN G_Spot g := by kernel_rfl
theorem li_z45z [Fuel] : @z45z _ = @sEqualN G_Spot NN := lk_z45z NN
theorem lk_z48z (g : Nat) : @z48z_ g = @sEqualN G_Pair g := by kernel_rfl
theorem li_z48z [Fuel] : @z48z _ = @sEqualN G_Pair NN := lk_z48z NN
theorem lm_get_string_int : @mget_string_int = @aget (List UInt8) Int keq_string := by kernel_rfl
theorem lm_set_string_int : @mset_string_int = @aset (List UInt8) Int keq_string := by kernel_rfl
theorem lm_get_band_onBand_bool : @mget_band_onBand_bool = @aget G_band_onBand Bool keq_band_onBand := by kernel_rfl
theorem lm_set_band_onBand_bool : @mset_band_onBand_bool = @aset G_band_onBand Bool keq_band_onBand := by kernel_rfl
theorem keq_string_is (x y : List UInt8) : keq_string x y = true ↔ x = y := by simp [keq_string]
theorem keq_band_onBand_is (x y : G_band_onBand) : keq_band_onBand x y = true ↔ x = y := by cases x; cases y; simp [keq_band_onBand]
theorem eq_G_Spot_is (x y : G_Spot) : eq_G_Spot x y = true ↔ x = y := by cases x; cases y; simp [eq_G_Spot]
theorem eq_G_Pair_is (x y : G_Pair) : eq_G_Pair x y = true ↔ x = y := by cases x; cases y; simp [eq_G_Pair]
end Go.Am
