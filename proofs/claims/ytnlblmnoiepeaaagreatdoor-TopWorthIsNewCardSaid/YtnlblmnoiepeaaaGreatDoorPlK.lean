/- The plain law, in Lean alone: K. No condition: lemmas for the claim. -/
import Derived.Test.YtnlblmnoiepeaaaGreatDoorF1
import Derived.Test.YtnlblmnoiepeaaaGreatDoorF2
import Derived.Test.YtnlblmnoiepeaaaGreatDoorF3
import Derived.Test.YtnlblmnoiepeaaaGreatDoorF4
import Derived.Test.YtnlblmnoiepeaaaGreatDoorF5
import Derived.Test.YtnlblmnoiepeaaaGreatDoorF6
import Derived.Test.YtnlblmnoiepeaaaGreatDoorF7
import Derived.Test.YtnlblmnoiepeaaaGreatDoorF8
import Derived.Test.YtnlblmnoiepeaaaGreatDoorF9
import Derived.Test.YtnlblmnoiepeaaaGreatDoorF10
import Derived.Test.YtnlblmnoiepeaaaGreatDoorF11
import Derived.Test.YtnlblmnoiepeaaaGreatDoorPlB4
namespace Go.Am
open Go Go.Proofs
theorem lk_z5z (g : C_z5z) : @z5z_ g = @sIns G_Spot g.N g.z9z := by kernel_rfl
theorem li_z5z [Fuel] : @z5z _ = @sIns G_Spot NN (@z9z _) := lk_z5z I_z5z
theorem lk_z4z (g : C_z4z) : @z4z_ g = @sSta G_Spot g.N g.z5z := by kernel_rfl
theorem li_z4z [Fuel] : @z4z _ = @sSta G_Spot NN (@z5z _) := lk_z4z I_z4z
theorem lk_z23z (g : Nat) : @z23z_ g = @sComp G_Spot g (⟨0, 0, [], []⟩ : G_Spot) (fun x y {_} k => k (eq_G_Spot x y)) := by kernel_rfl
theorem li_z23z [Fuel] : @z23z _ = @sComp G_Spot NN (⟨0, 0, [], []⟩ : G_Spot) (fun x y {_} k => k (eq_G_Spot x y)) := lk_z23z NN
theorem lk_z3z (g : C_z3z) : @z3z_ g = @sIns G_Contact g.N g.z7z := by kernel_rfl
theorem li_z3z [Fuel] : @z3z _ = @sIns G_Contact NN (@z7z _) := lk_z3z I_z3z
theorem lk_z2z (g : C_z2z) : @z2z_ g = @sSta G_Contact g.N g.z3z := by kernel_rfl
theorem li_z2z [Fuel] : @z2z _ = @sSta G_Contact NN (@z3z _) := lk_z2z I_z2z
theorem lk_z6z (g : C_z6z) : @z6z_ g = @sComp G_Contact g.N (⟨0, 0, [], [], 0, 0, [], []⟩ : G_Contact) g.z15z := by kernel_rfl
theorem li_z6z [Fuel] : @z6z _ = @sComp G_Contact NN (⟨0, 0, [], [], 0, 0, [], []⟩ : G_Contact) (@z15z _) := lk_z6z I_z6z
theorem lk_z14z (g : C_z14z) : @z14z_ g = @sIndexF G_Band G_Band g.N g.z19z := by kernel_rfl
theorem li_z14z [Fuel] : @z14z _ = @sIndexF G_Band G_Band NN (@z19z _) := lk_z14z I_z14z
theorem lk_z16z (g : C_z16z) : @z16z_ g = @sIndexF G_Band Int g.N g.log_At_1 := by kernel_rfl
theorem li_z16z [Fuel] : @z16z _ = @sIndexF G_Band Int NN (@log_At_1 _) := lk_z16z I_z16z
theorem lk_z53z (g : Nat) : @z53z_ g = @sIndexV Int Int g (fun x y => x == y) := by kernel_rfl
theorem li_z53z [Fuel] : @z53z _ = @sIndexV Int Int NN (fun x y => x == y) := lk_z53z NN
theorem lm_get_band_worked_bool : @mget_band_worked_bool = @aget G_band_worked Bool keq_band_worked := by kernel_rfl
theorem lm_set_band_worked_bool : @mset_band_worked_bool = @aset G_band_worked Bool keq_band_worked := by kernel_rfl
theorem lm_get_band_onBand_bool : @mget_band_onBand_bool = @aget G_band_onBand Bool keq_band_onBand := by kernel_rfl
theorem lm_set_band_onBand_bool : @mset_band_onBand_bool = @aset G_band_onBand Bool keq_band_onBand := by kernel_rfl
theorem lm_get_log_worked_bool : @mget_log_worked_bool = @aget G_log_worked Bool keq_log_worked := by kernel_rfl
theorem lm_set_log_worked_bool : @mset_log_worked_bool = @aset G_log_worked Bool keq_log_worked := by kernel_rfl
theorem keq_band_worked_is (x y : G_band_worked) : keq_band_worked x y = true ↔ x = y := by cases x; cases y; simp [keq_band_worked]
theorem keq_band_onBand_is (x y : G_band_onBand) : keq_band_onBand x y = true ↔ x = y := by cases x; cases y; simp [keq_band_onBand]
theorem keq_log_worked_is (x y : G_log_worked) : keq_log_worked x y = true ↔ x = y := by cases x; cases y; simp [keq_log_worked]
end Go.Am
