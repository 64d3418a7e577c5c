/- The plain law, in Lean alone: K. No condition: lemmas for the claim. -/
import Derived.Test.YtnkoiigdcbjenaaGreatDoorF1
import Derived.Test.YtnkoiigdcbjenaaGreatDoorF2
import Derived.Test.YtnkoiigdcbjenaaGreatDoorF3
import Derived.Test.YtnkoiigdcbjenaaGreatDoorF4
import Derived.Test.YtnkoiigdcbjenaaGreatDoorF5
import Derived.Test.YtnkoiigdcbjenaaGreatDoorPlB4
namespace Go.Am
open Go Go.Proofs
theorem lk_slices_insertionSortCmpFunc__Try_Stream_Tries_1 (g : C_slices_insertionSortCmpFunc__Try_Stream_Tries_1) : @slices_insertionSortCmpFunc__Try_Stream_Tries_1_ g = @sIns G_Try g.N g.Stream_Tries_1 := by kernel_rfl
theorem li_slices_insertionSortCmpFunc__Try_Stream_Tries_1 [Fuel] : @slices_insertionSortCmpFunc__Try_Stream_Tries_1 _ = @sIns G_Try NN (@Stream_Tries_1 _) := lk_slices_insertionSortCmpFunc__Try_Stream_Tries_1 I_slices_insertionSortCmpFunc__Try_Stream_Tries_1
theorem lk_slices_stableCmpFunc__Try_Stream_Tries_1 (g : C_slices_stableCmpFunc__Try_Stream_Tries_1) : @slices_stableCmpFunc__Try_Stream_Tries_1_ g = @sSta G_Try g.N g.slices_insertionSortCmpFunc__Try_Stream_Tries_1 := by kernel_rfl
theorem li_slices_stableCmpFunc__Try_Stream_Tries_1 [Fuel] : @slices_stableCmpFunc__Try_Stream_Tries_1 _ = @sSta G_Try NN (@slices_insertionSortCmpFunc__Try_Stream_Tries_1 _) := lk_slices_stableCmpFunc__Try_Stream_Tries_1 I_slices_stableCmpFunc__Try_Stream_Tries_1
theorem lk_slices_Equal__Best (g : Nat) : @slices_Equal__Best_ g = @sEqual G_Best g (fun x y => !(eq_G_Best x y)) := by kernel_rfl
theorem li_slices_Equal__Best [Fuel] : @slices_Equal__Best _ = @sEqual G_Best NN (fun x y => !(eq_G_Best x y)) := lk_slices_Equal__Best NN
theorem lk_slices_Equal__Best_n1 (g : Nat) : @slices_Equal__Best_n1_ g = @sEqualN G_Best g := by kernel_rfl
theorem li_slices_Equal__Best_n1 [Fuel] : @slices_Equal__Best_n1 _ = @sEqualN G_Best NN := lk_slices_Equal__Best_n1 NN
theorem lm_get_string_Best : @mget_string_Best = @aget (List UInt8) G_Best keq_string := by kernel_rfl
theorem lm_set_string_Best : @mset_string_Best = @aset (List UInt8) G_Best keq_string := by kernel_rfl
theorem keq_string_is (x y : List UInt8) : keq_string x y = true ↔ x = y := by simp [keq_string]
theorem eq_G_Best_is (x y : G_Best) : eq_G_Best x y = true ↔ x = y := by cases x; cases y; simp [eq_G_Best]
end Go.Am
