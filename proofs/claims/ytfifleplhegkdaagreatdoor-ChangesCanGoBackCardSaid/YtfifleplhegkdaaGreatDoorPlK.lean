/- The plain law, in Lean alone: K. No condition: lemmas for the claim. -/
import Derived.Test.YtfifleplhegkdaaGreatDoorF1
import Derived.Test.YtfifleplhegkdaaGreatDoorF2
import Derived.Test.YtfifleplhegkdaaGreatDoorF3
import Derived.Test.YtfifleplhegkdaaGreatDoorF4
import Derived.Test.YtfifleplhegkdaaGreatDoorF5
import Derived.Test.YtfifleplhegkdaaGreatDoorF6
import Derived.Test.YtfifleplhegkdaaGreatDoorF7
import Derived.Test.YtfifleplhegkdaaGreatDoorF8
import Derived.Test.YtfifleplhegkdaaGreatDoorF9
import Derived.Test.YtfifleplhegkdaaGreatDoorF10
import Derived.Test.YtfifleplhegkdaaGreatDoorPlB4
namespace Go.Am
open Go Go.Proofs
theorem lk_slices_insertionSortCmpFunc__Contact_Q_ContactOrder (g : C_slices_insertionSortCmpFunc__Contact_Q_ContactOrder) : @slices_insertionSortCmpFunc__Contact_Q_ContactOrder_ g = @sIns G_Contact g.N g.Q_ContactOrder := by kernel_rfl
theorem li_slices_insertionSortCmpFunc__Contact_Q_ContactOrder [Fuel] : @slices_insertionSortCmpFunc__Contact_Q_ContactOrder _ = @sIns G_Contact NN (@Q_ContactOrder _) := lk_slices_insertionSortCmpFunc__Contact_Q_ContactOrder I_slices_insertionSortCmpFunc__Contact_Q_ContactOrder
theorem lk_slices_stableCmpFunc__Contact_Q_ContactOrder (g : C_slices_stableCmpFunc__Contact_Q_ContactOrder) : @slices_stableCmpFunc__Contact_Q_ContactOrder_ g = @sSta G_Contact g.N g.slices_insertionSortCmpFunc__Contact_Q_ContactOrder := by kernel_rfl
theorem li_slices_stableCmpFunc__Contact_Q_ContactOrder [Fuel] : @slices_stableCmpFunc__Contact_Q_ContactOrder _ = @sSta G_Contact NN (@slices_insertionSortCmpFunc__Contact_Q_ContactOrder _) := lk_slices_stableCmpFunc__Contact_Q_ContactOrder I_slices_stableCmpFunc__Contact_Q_ContactOrder
theorem lk_slices_CompactFunc__Contact_Stream_Contacts_1 (g : C_slices_CompactFunc__Contact_Stream_Contacts_1) : @slices_CompactFunc__Contact_Stream_Contacts_1_ g = @sComp G_Contact g.N (⟨0, 0, [], [], 0, 0, [], []⟩ : G_Contact) g.Stream_Contacts_1 := by kernel_rfl
theorem li_slices_CompactFunc__Contact_Stream_Contacts_1 [Fuel] : @slices_CompactFunc__Contact_Stream_Contacts_1 _ = @sComp G_Contact NN (⟨0, 0, [], [], 0, 0, [], []⟩ : G_Contact) (@Stream_Contacts_1 _) := lk_slices_CompactFunc__Contact_Stream_Contacts_1 I_slices_CompactFunc__Contact_Stream_Contacts_1
theorem lk_slices_Index__int (g : Nat) : @slices_Index__int_ g = @sIndexV Int Int g (fun x y => x == y) := by kernel_rfl
theorem li_slices_Index__int [Fuel] : @slices_Index__int _ = @sIndexV Int Int NN (fun x y => x == y) := lk_slices_Index__int NN
theorem lk_slices_IndexFunc__Row_band_May_1 (g : C_slices_IndexFunc__Row_band_May_1) : @slices_IndexFunc__Row_band_May_1_ g = @sIndexF G_Row G_Row g.N g.band_May_1 := by kernel_rfl
theorem li_slices_IndexFunc__Row_band_May_1 [Fuel] : @slices_IndexFunc__Row_band_May_1 _ = @sIndexF G_Row G_Row NN (@band_May_1 _) := lk_slices_IndexFunc__Row_band_May_1 I_slices_IndexFunc__Row_band_May_1
theorem lk_slices_Equal__Contact (g : Nat) : @slices_Equal__Contact_ g = @sEqual G_Contact g (fun x y => !(eq_G_Contact x y)) := by kernel_rfl
theorem li_slices_Equal__Contact [Fuel] : @slices_Equal__Contact _ = @sEqual G_Contact NN (fun x y => !(eq_G_Contact x y)) := lk_slices_Equal__Contact NN
theorem lm_get_Contact_Contact : @mget_Contact_Contact = @aget G_Contact G_Contact keq_Contact := by kernel_rfl
theorem lm_set_Contact_Contact : @mset_Contact_Contact = @aset G_Contact G_Contact keq_Contact := by kernel_rfl
theorem lm_del_Contact_Contact : @mdel_Contact_Contact = @adel G_Contact G_Contact keq_Contact := by kernel_rfl
theorem keq_Contact_is (x y : G_Contact) : keq_Contact x y = true ↔ x = y := by cases x; cases y; simp [keq_Contact]
theorem eq_G_Contact_is (x y : G_Contact) : eq_G_Contact x y = true ↔ x = y := by cases x; cases y; simp [eq_G_Contact]
end Go.Am
