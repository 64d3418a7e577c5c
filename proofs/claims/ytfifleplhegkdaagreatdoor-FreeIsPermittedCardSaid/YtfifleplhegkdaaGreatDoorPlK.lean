/- The plain law, in Lean alone: K. No condition: lemmas for the claim. -/
import Derived.Test.YtfifleplhegkdaaGreatDoorF1
import Derived.Test.YtfifleplhegkdaaGreatDoorF2
import Derived.Test.YtfifleplhegkdaaGreatDoorF3
import Derived.Test.YtfifleplhegkdaaGreatDoorF4
import Derived.Test.YtfifleplhegkdaaGreatDoorF5
import Derived.Test.YtfifleplhegkdaaGreatDoorF6
import Derived.Test.YtfifleplhegkdaaGreatDoorF7
import Derived.Test.YtfifleplhegkdaaGreatDoorF8
import Derived.Test.YtfifleplhegkdaaGreatDoorF9
import Derived.Test.YtfifleplhegkdaaGreatDoorPlB4
namespace Go.Am
open Go Go.Proofs
theorem lk_slices_insertionSortCmpFunc__Segment_Stream_Segments_1 (g : C_slices_insertionSortCmpFunc__Segment_Stream_Segments_1) : @slices_insertionSortCmpFunc__Segment_Stream_Segments_1_ g = @sIns G_Segment g.N g.Stream_Segments_1 := by kernel_rfl
theorem li_slices_insertionSortCmpFunc__Segment_Stream_Segments_1 [Fuel] : @slices_insertionSortCmpFunc__Segment_Stream_Segments_1 _ = @sIns G_Segment NN (@Stream_Segments_1 _) := lk_slices_insertionSortCmpFunc__Segment_Stream_Segments_1 I_slices_insertionSortCmpFunc__Segment_Stream_Segments_1
theorem lk_slices_stableCmpFunc__Segment_Stream_Segments_1 (g : C_slices_stableCmpFunc__Segment_Stream_Segments_1) : @slices_stableCmpFunc__Segment_Stream_Segments_1_ g = @sSta G_Segment g.N g.slices_insertionSortCmpFunc__Segment_Stream_Segments_1 := by kernel_rfl
theorem li_slices_stableCmpFunc__Segment_Stream_Segments_1 [Fuel] : @slices_stableCmpFunc__Segment_Stream_Segments_1 _ = @sSta G_Segment NN (@slices_insertionSortCmpFunc__Segment_Stream_Segments_1 _) := lk_slices_stableCmpFunc__Segment_Stream_Segments_1 I_slices_stableCmpFunc__Segment_Stream_Segments_1
theorem lk_slices_insertionSortCmpFunc__Busy_Stream_Busies_1 (g : C_slices_insertionSortCmpFunc__Busy_Stream_Busies_1) : @slices_insertionSortCmpFunc__Busy_Stream_Busies_1_ g = @sIns G_Busy g.N g.Stream_Busies_1 := by kernel_rfl
theorem li_slices_insertionSortCmpFunc__Busy_Stream_Busies_1 [Fuel] : @slices_insertionSortCmpFunc__Busy_Stream_Busies_1 _ = @sIns G_Busy NN (@Stream_Busies_1 _) := lk_slices_insertionSortCmpFunc__Busy_Stream_Busies_1 I_slices_insertionSortCmpFunc__Busy_Stream_Busies_1
theorem lk_slices_stableCmpFunc__Busy_Stream_Busies_1 (g : C_slices_stableCmpFunc__Busy_Stream_Busies_1) : @slices_stableCmpFunc__Busy_Stream_Busies_1_ g = @sSta G_Busy g.N g.slices_insertionSortCmpFunc__Busy_Stream_Busies_1 := by kernel_rfl
theorem li_slices_stableCmpFunc__Busy_Stream_Busies_1 [Fuel] : @slices_stableCmpFunc__Busy_Stream_Busies_1 _ = @sSta G_Busy NN (@slices_insertionSortCmpFunc__Busy_Stream_Busies_1 _) := lk_slices_stableCmpFunc__Busy_Stream_Busies_1 I_slices_stableCmpFunc__Busy_Stream_Busies_1
theorem lk_slices_Index__int (g : Nat) : @slices_Index__int_ g = @sIndexV Int Int g (fun x y => x == y) := by kernel_rfl
theorem li_slices_Index__int [Fuel] : @slices_Index__int _ = @sIndexV Int Int NN (fun x y => x == y) := lk_slices_Index__int NN
theorem lk_slices_IndexFunc__Row_band_May_1 (g : C_slices_IndexFunc__Row_band_May_1) : @slices_IndexFunc__Row_band_May_1_ g = @sIndexF G_Row G_Row g.N g.band_May_1 := by kernel_rfl
theorem li_slices_IndexFunc__Row_band_May_1 [Fuel] : @slices_IndexFunc__Row_band_May_1 _ = @sIndexF G_Row G_Row NN (@band_May_1 _) := lk_slices_IndexFunc__Row_band_May_1 I_slices_IndexFunc__Row_band_May_1
theorem lk_slices_IndexFunc__Row_keep_FreeIsPermitted_1 (g : C_slices_IndexFunc__Row_keep_FreeIsPermitted_1) : @slices_IndexFunc__Row_keep_FreeIsPermitted_1_ g = @sIndexF G_Row Int g.N g.keep_FreeIsPermitted_1 := by kernel_rfl
theorem li_slices_IndexFunc__Row_keep_FreeIsPermitted_1 [Fuel] : @slices_IndexFunc__Row_keep_FreeIsPermitted_1 _ = @sIndexF G_Row Int NN (@keep_FreeIsPermitted_1 _) := lk_slices_IndexFunc__Row_keep_FreeIsPermitted_1 I_slices_IndexFunc__Row_keep_FreeIsPermitted_1
end Go.Am
