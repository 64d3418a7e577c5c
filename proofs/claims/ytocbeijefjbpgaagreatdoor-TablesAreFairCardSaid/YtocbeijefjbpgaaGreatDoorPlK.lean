/- The plain law, in Lean alone: K. No condition: lemmas for the claim. -/
import Derived.Test.YtocbeijefjbpgaaGreatDoorF1
import Derived.Test.YtocbeijefjbpgaaGreatDoorF2
import Derived.Test.YtocbeijefjbpgaaGreatDoorF3
import Derived.Test.YtocbeijefjbpgaaGreatDoorF4
import Derived.Test.YtocbeijefjbpgaaGreatDoorF5
import Derived.Test.YtocbeijefjbpgaaGreatDoorF6
import Derived.Test.YtocbeijefjbpgaaGreatDoorF7
import Derived.Test.YtocbeijefjbpgaaGreatDoorF8
import Derived.Test.YtocbeijefjbpgaaGreatDoorPlB4
namespace Go.Am
open Go Go.Proofs
theorem lk_slices_Index__int (g : Nat) : @slices_Index__int_ g = @sIndexV Int Int g (fun x y => x == y) := by kernel_rfl
theorem li_slices_Index__int [Fuel] : @slices_Index__int _ = @sIndexV Int Int NN (fun x y => x == y) := lk_slices_Index__int NN
theorem lk_slices_IndexFunc__Row_band_May_1 (g : C_slices_IndexFunc__Row_band_May_1) : @slices_IndexFunc__Row_band_May_1_ g = @sIndexF G_Row G_Row g.N g.band_May_1 := by kernel_rfl
theorem li_slices_IndexFunc__Row_band_May_1 [Fuel] : @slices_IndexFunc__Row_band_May_1 _ = @sIndexF G_Row G_Row NN (@band_May_1 _) := lk_slices_IndexFunc__Row_band_May_1 I_slices_IndexFunc__Row_band_May_1
end Go.Am
