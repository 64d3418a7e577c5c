/- The plain law, in Lean alone: K. No condition: lemmas for the claim. -/
import Derived.Test.YtancmpgebeiiaaaGreatDoorF1
import Derived.Test.YtancmpgebeiiaaaGreatDoorF2
import Derived.Test.YtancmpgebeiiaaaGreatDoorF3
import Derived.Test.YtancmpgebeiiaaaGreatDoorF4
import Derived.Test.YtancmpgebeiiaaaGreatDoorF5
import Derived.Test.YtancmpgebeiiaaaGreatDoorF6
import Derived.Test.YtancmpgebeiiaaaGreatDoorF7
import Derived.Test.YtancmpgebeiiaaaGreatDoorF8
import Derived.Test.YtancmpgebeiiaaaGreatDoorF9
import Derived.Test.YtancmpgebeiiaaaGreatDoorPlB4
namespace Go.Am
open Go Go.Proofs
theorem lk_slices_insertionSortCmpFunc__Contact_Q_ContactOrder (g : C_slices_insertionSortCmpFunc__Contact_Q_ContactOrder) : @slices_insertionSortCmpFunc__Contact_Q_ContactOrder_ g = @sIns G_Contact g.N g.Q_ContactOrder := by kernel_rfl
theorem li_slices_insertionSortCmpFunc__Contact_Q_ContactOrder [Fuel] : @slices_insertionSortCmpFunc__Contact_Q_ContactOrder _ = @sIns G_Contact NN (@Q_ContactOrder _) := lk_slices_insertionSortCmpFunc__Contact_Q_ContactOrder I_slices_insertionSortCmpFunc__Contact_Q_ContactOrder
theorem lk_slices_stableCmpFunc__Contact_Q_ContactOrder (g : C_slices_stableCmpFunc__Contact_Q_ContactOrder) : @slices_stableCmpFunc__Contact_Q_ContactOrder_ g = @sSta G_Contact g.N g.slices_insertionSortCmpFunc__Contact_Q_ContactOrder := by kernel_rfl
theorem li_slices_stableCmpFunc__Contact_Q_ContactOrder [Fuel] : @slices_stableCmpFunc__Contact_Q_ContactOrder _ = @sSta G_Contact NN (@slices_insertionSortCmpFunc__Contact_Q_ContactOrder _) := lk_slices_stableCmpFunc__Contact_Q_ContactOrder I_slices_stableCmpFunc__Contact_Q_ContactOrder
theorem lk_slices_CompactFunc__Contact_Stream_Contacts_1 (g : C_slices_CompactFunc__Contact_Stream_Contacts_1) : @slices_CompactFunc__Contact_Stream_Contacts_1_ g = @sComp G_Contact g.N (⟨0, 0, [], [], 0, 0, [], []⟩ : G_Contact) g.Stream_Contacts_1 := by kernel_rfl
theorem li_slices_CompactFunc__Contact_Stream_Contacts_1 [Fuel] : @slices_CompactFunc__Contact_Stream_Contacts_1 _ = @sComp G_Contact NN (⟨0, 0, [], [], 0, 0, [], []⟩ : G_Contact) (@Stream_Contacts_1 _) := lk_slices_CompactFunc__Contact_Stream_Contacts_1 I_slices_CompactFunc__Contact_Stream_Contacts_1
theorem lk_slices_IndexFunc__Window_keep_PausesAreEmpty_1 (g : C_slices_IndexFunc__Window_keep_PausesAreEmpty_1) : @slices_IndexFunc__Window_keep_PausesAreEmpty_1_ g = @sIndexF G_Window G_Contact g.N g.keep_PausesAreEmpty_1 := by kernel_rfl
theorem li_slices_IndexFunc__Window_keep_PausesAreEmpty_1 [Fuel] : @slices_IndexFunc__Window_keep_PausesAreEmpty_1 _ = @sIndexF G_Window G_Contact NN (@keep_PausesAreEmpty_1 _) := lk_slices_IndexFunc__Window_keep_PausesAreEmpty_1 I_slices_IndexFunc__Window_keep_PausesAreEmpty_1
theorem lk_slices_Index__int (g : Nat) : @slices_Index__int_ g = @sIndexV Int Int g (fun x y => x == y) := by kernel_rfl
theorem li_slices_Index__int [Fuel] : @slices_Index__int _ = @sIndexV Int Int NN (fun x y => x == y) := lk_slices_Index__int NN
theorem lk_slices_IndexFunc__Row_band_May_1 (g : C_slices_IndexFunc__Row_band_May_1) : @slices_IndexFunc__Row_band_May_1_ g = @sIndexF G_Row G_Row g.N g.band_May_1 := by kernel_rfl
theorem li_slices_IndexFunc__Row_band_May_1 [Fuel] : @slices_IndexFunc__Row_band_May_1 _ = @sIndexF G_Row G_Row NN (@band_May_1 _) := lk_slices_IndexFunc__Row_band_May_1 I_slices_IndexFunc__Row_band_May_1
end Go.Am
