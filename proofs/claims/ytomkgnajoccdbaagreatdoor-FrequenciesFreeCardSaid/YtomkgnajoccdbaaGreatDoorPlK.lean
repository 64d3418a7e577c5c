/- The plain law, in Lean alone: K. No condition: lemmas for the claim. -/
import Derived.Test.YtomkgnajoccdbaaGreatDoorF1
import Derived.Test.YtomkgnajoccdbaaGreatDoorF2
import Derived.Test.YtomkgnajoccdbaaGreatDoorF3
import Derived.Test.YtomkgnajoccdbaaGreatDoorF4
import Derived.Test.YtomkgnajoccdbaaGreatDoorF5
import Derived.Test.YtomkgnajoccdbaaGreatDoorF6
import Derived.Test.YtomkgnajoccdbaaGreatDoorF7
import Derived.Test.YtomkgnajoccdbaaGreatDoorF8
import Derived.Test.YtomkgnajoccdbaaGreatDoorF9
import Derived.Test.YtomkgnajoccdbaaGreatDoorPlB4
namespace Go.Am
open Go Go.Proofs
theorem lk_slices_insertionSortCmpFunc__Segment_Stream_Segments_1 (g : C_slices_insertionSortCmpFunc__Segment_Stream_Segments_1) : @slices_insertionSortCmpFunc__Segment_Stream_Segments_1_ g = @sIns G_Segment g.N g.Stream_Segments_1 := by kernel_rfl
theorem li_slices_insertionSortCmpFunc__Segment_Stream_Segments_1 [Fuel] : @slices_insertionSortCmpFunc__Segment_Stream_Segments_1 _ = @sIns G_Segment NN (@Stream_Segments_1 _) := lk_slices_insertionSortCmpFunc__Segment_Stream_Segments_1 I_slices_insertionSortCmpFunc__Segment_Stream_Segments_1
theorem lk_slices_stableCmpFunc__Segment_Stream_Segments_1 (g : C_slices_stableCmpFunc__Segment_Stream_Segments_1) : @slices_stableCmpFunc__Segment_Stream_Segments_1_ g = @sSta G_Segment g.N g.slices_insertionSortCmpFunc__Segment_Stream_Segments_1 := by kernel_rfl
theorem li_slices_stableCmpFunc__Segment_Stream_Segments_1 [Fuel] : @slices_stableCmpFunc__Segment_Stream_Segments_1 _ = @sSta G_Segment NN (@slices_insertionSortCmpFunc__Segment_Stream_Segments_1 _) := lk_slices_stableCmpFunc__Segment_Stream_Segments_1 I_slices_stableCmpFunc__Segment_Stream_Segments_1
theorem lk_slices_insertionSortCmpFunc__Busy_Stream_Busies_1 (g : C_slices_insertionSortCmpFunc__Busy_Stream_Busies_1) : @slices_insertionSortCmpFunc__Busy_Stream_Busies_1_ g = @sIns G_Busy g.N g.Stream_Busies_1 := by kernel_rfl
theorem li_slices_insertionSortCmpFunc__Busy_Stream_Busies_1 [Fuel] : @slices_insertionSortCmpFunc__Busy_Stream_Busies_1 _ = @sIns G_Busy NN (@Stream_Busies_1 _) := lk_slices_insertionSortCmpFunc__Busy_Stream_Busies_1 I_slices_insertionSortCmpFunc__Busy_Stream_Busies_1
theorem lk_slices_stableCmpFunc__Busy_Stream_Busies_1 (g : C_slices_stableCmpFunc__Busy_Stream_Busies_1) : @slices_stableCmpFunc__Busy_Stream_Busies_1_ g = @sSta G_Busy g.N g.slices_insertionSortCmpFunc__Busy_Stream_Busies_1 := by kernel_rfl
theorem li_slices_stableCmpFunc__Busy_Stream_Busies_1 [Fuel] : @slices_stableCmpFunc__Busy_Stream_Busies_1 _ = @sSta G_Busy NN (@slices_insertionSortCmpFunc__Busy_Stream_Busies_1 _) := lk_slices_stableCmpFunc__Busy_Stream_Busies_1 I_slices_stableCmpFunc__Busy_Stream_Busies_1
theorem lk_slices_Index__int (g : Nat) : @slices_Index__int_ g = @sIndexV Int Int g (fun x y => x == y) := by kernel_rfl
theorem li_slices_Index__int [Fuel] : @slices_Index__int _ = @sIndexV Int Int NN (fun x y => x == y) := lk_slices_Index__int NN
theorem lk_slices_Concat__Row (g : C_slices_Concat__Row) : @slices_Concat__Row_ g = @sCat G_Row g.N 16 g.slices_Grow__Row_n0 := by kernel_rfl
theorem li_slices_Concat__Row [Fuel] : @slices_Concat__Row _ = @sCat G_Row NN 16 (X_grow 16) := lk_slices_Concat__Row I_slices_Concat__Row
theorem lk_slices_Compact__int (g : Nat) : @slices_Compact__int_ g = @sComp Int g 0 (fun x y {_} k => k ((fun x y => x == y) x y)) := by kernel_rfl
theorem li_slices_Compact__int [Fuel] : @slices_Compact__int _ = @sComp Int NN 0 (fun x y {_} k => k ((fun x y => x == y) x y)) := lk_slices_Compact__int NN
theorem lk_slices_IndexFunc__Row_Q_rowsOf_1_1 (g : C_slices_IndexFunc__Row_Q_rowsOf_1_1) : @slices_IndexFunc__Row_Q_rowsOf_1_1_ g = @sIndexF G_Row Int g.N g.Q_rowsOf_1_1 := by kernel_rfl
theorem li_slices_IndexFunc__Row_Q_rowsOf_1_1 [Fuel] : @slices_IndexFunc__Row_Q_rowsOf_1_1 _ = @sIndexF G_Row Int NN (@Q_rowsOf_1_1 _) := lk_slices_IndexFunc__Row_Q_rowsOf_1_1 I_slices_IndexFunc__Row_Q_rowsOf_1_1
theorem lk_slices_Equal__Pair (g : Nat) : @slices_Equal__Pair_ g = @sEqual G_Pair g (fun x y => !(eq_G_Pair x y)) := by kernel_rfl
theorem li_slices_Equal__Pair [Fuel] : @slices_Equal__Pair _ = @sEqual G_Pair NN (fun x y => !(eq_G_Pair x y)) := lk_slices_Equal__Pair NN
theorem lk_slices_Equal__Row (g : Nat) : @slices_Equal__Row_ g = @sEqual G_Row g (fun x y => !(eq_G_Row x y)) := by kernel_rfl
theorem li_slices_Equal__Row [Fuel] : @slices_Equal__Row _ = @sEqual G_Row NN (fun x y => !(eq_G_Row x y)) := lk_slices_Equal__Row NN
theorem lk_slices_IndexFunc__Row_band_May_1 (g : C_slices_IndexFunc__Row_band_May_1) : @slices_IndexFunc__Row_band_May_1_ g = @sIndexF G_Row G_Row g.N g.band_May_1 := by kernel_rfl
theorem li_slices_IndexFunc__Row_band_May_1 [Fuel] : @slices_IndexFunc__Row_band_May_1 _ = @sIndexF G_Row G_Row NN (@band_May_1 _) := lk_slices_IndexFunc__Row_band_May_1 I_slices_IndexFunc__Row_band_May_1
theorem eq_G_Pair_is (x y : G_Pair) : eq_G_Pair x y = true ↔ x = y := by cases x; cases y; simp [eq_G_Pair]
theorem eq_G_Row_is (x y : G_Row) : eq_G_Row x y = true ↔ x = y := by cases x; cases y; simp [eq_G_Row]
end Go.Am
