/- The plain law, in Lean alone: K. No condition: lemmas for the claim. -/
import Derived.Test.YtoajjnhmofegcaaGreatDoorF1
import Derived.Test.YtoajjnhmofegcaaGreatDoorF2
import Derived.Test.YtoajjnhmofegcaaGreatDoorF3
import Derived.Test.YtoajjnhmofegcaaGreatDoorF4
import Derived.Test.YtoajjnhmofegcaaGreatDoorF5
import Derived.Test.YtoajjnhmofegcaaGreatDoorF6
import Derived.Test.YtoajjnhmofegcaaGreatDoorF7
import Derived.Test.YtoajjnhmofegcaaGreatDoorF8
import Derived.Test.YtoajjnhmofegcaaGreatDoorPlB1
namespace Go.Am
open Go Go.Proofs
theorem lk_slices_insertionSortCmpFunc__Spot_Q_SpotOrder (g : C_slices_insertionSortCmpFunc__Spot_Q_SpotOrder) : @slices_insertionSortCmpFunc__Spot_Q_SpotOrder_ g = @sIns G_Spot g.N g.Q_SpotOrder := by kernel_rfl
theorem li_slices_insertionSortCmpFunc__Spot_Q_SpotOrder [Fuel] : @slices_insertionSortCmpFunc__Spot_Q_SpotOrder _ = @sIns G_Spot NN (@Q_SpotOrder _) := lk_slices_insertionSortCmpFunc__Spot_Q_SpotOrder I_slices_insertionSortCmpFunc__Spot_Q_SpotOrder
theorem lk_slices_stableCmpFunc__Spot_Q_SpotOrder (g : C_slices_stableCmpFunc__Spot_Q_SpotOrder) : @slices_stableCmpFunc__Spot_Q_SpotOrder_ g = @sSta G_Spot g.N g.slices_insertionSortCmpFunc__Spot_Q_SpotOrder := by kernel_rfl
theorem li_slices_stableCmpFunc__Spot_Q_SpotOrder [Fuel] : @slices_stableCmpFunc__Spot_Q_SpotOrder _ = @sSta G_Spot NN (@slices_insertionSortCmpFunc__Spot_Q_SpotOrder _) := lk_slices_stableCmpFunc__Spot_Q_SpotOrder I_slices_stableCmpFunc__Spot_Q_SpotOrder
theorem lk_slices_Compact__Spot (g : Nat) : @slices_Compact__Spot_ g = @sComp G_Spot g (⟨0, 0, [], []⟩ : G_Spot) (fun x y {_} k => k (eq_G_Spot x y)) := by kernel_rfl
theorem li_slices_Compact__Spot [Fuel] : @slices_Compact__Spot _ = @sComp G_Spot NN (⟨0, 0, [], []⟩ : G_Spot) (fun x y {_} k => k (eq_G_Spot x y)) := lk_slices_Compact__Spot NN
theorem lk_slices_Equal__Spot (g : Nat) : @slices_Equal__Spot_ g = @sEqual G_Spot g (fun x y => !(eq_G_Spot x y)) := by kernel_rfl
theorem li_slices_Equal__Spot [Fuel] : @slices_Equal__Spot _ = @sEqual G_Spot NN (fun x y => !(eq_G_Spot x y)) := lk_slices_Equal__Spot NN
theorem lk_slices_Index__int (g : Nat) : @slices_Index__int_ g = @sIndexV Int Int g (fun x y => x == y) := by kernel_rfl
theorem li_slices_Index__int [Fuel] : @slices_Index__int _ = @sIndexV Int Int NN (fun x y => x == y) := lk_slices_Index__int NN
theorem lk_slices_IndexFunc__Row_band_May_1 (g : C_slices_IndexFunc__Row_band_May_1) : @slices_IndexFunc__Row_band_May_1_ g = @sIndexF G_Row G_Row g.N g.band_May_1 := by kernel_rfl
theorem li_slices_IndexFunc__Row_band_May_1 [Fuel] : @slices_IndexFunc__Row_band_May_1 _ = @sIndexF G_Row G_Row NN (@band_May_1 _) := lk_slices_IndexFunc__Row_band_May_1 I_slices_IndexFunc__Row_band_May_1
theorem eq_G_Spot_is (x y : G_Spot) : eq_G_Spot x y = true ↔ x = y := by cases x; cases y; simp [eq_G_Spot]
end Go.Am
