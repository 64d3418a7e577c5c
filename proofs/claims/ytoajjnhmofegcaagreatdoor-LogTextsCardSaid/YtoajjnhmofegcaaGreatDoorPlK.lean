/- The plain law, in Lean alone: K. No condition: lemmas for the claim. -/
import Derived.Test.YtoajjnhmofegcaaGreatDoorF1
import Derived.Test.YtoajjnhmofegcaaGreatDoorF2
import Derived.Test.YtoajjnhmofegcaaGreatDoorF3
import Derived.Test.YtoajjnhmofegcaaGreatDoorF4
import Derived.Test.YtoajjnhmofegcaaGreatDoorF5
import Derived.Test.YtoajjnhmofegcaaGreatDoorF6
import Derived.Test.YtoajjnhmofegcaaGreatDoorF7
import Derived.Test.YtoajjnhmofegcaaGreatDoorPlB1
namespace Go.Am
open Go Go.Proofs
theorem lk_slices_insertionSortCmpFunc__Contact_Q_ContactOrder (g : C_slices_insertionSortCmpFunc__Contact_Q_ContactOrder) : @slices_insertionSortCmpFunc__Contact_Q_ContactOrder_ g = @sIns G_Contact g.N g.Q_ContactOrder := by kernel_rfl
theorem li_slices_insertionSortCmpFunc__Contact_Q_ContactOrder [Fuel] : @slices_insertionSortCmpFunc__Contact_Q_ContactOrder _ = @sIns G_Contact NN (@Q_ContactOrder _) := lk_slices_insertionSortCmpFunc__Contact_Q_ContactOrder I_slices_insertionSortCmpFunc__Contact_Q_ContactOrder
theorem lk_slices_stableCmpFunc__Contact_Q_ContactOrder (g : C_slices_stableCmpFunc__Contact_Q_ContactOrder) : @slices_stableCmpFunc__Contact_Q_ContactOrder_ g = @sSta G_Contact g.N g.slices_insertionSortCmpFunc__Contact_Q_ContactOrder := by kernel_rfl
theorem li_slices_stableCmpFunc__Contact_Q_ContactOrder [Fuel] : @slices_stableCmpFunc__Contact_Q_ContactOrder _ = @sSta G_Contact NN (@slices_insertionSortCmpFunc__Contact_Q_ContactOrder _) := lk_slices_stableCmpFunc__Contact_Q_ContactOrder I_slices_stableCmpFunc__Contact_Q_ContactOrder
theorem lk_slices_CompactFunc__Contact_Stream_Contacts_1 (g : C_slices_CompactFunc__Contact_Stream_Contacts_1) : @slices_CompactFunc__Contact_Stream_Contacts_1_ g = @sComp G_Contact g.N (⟨0, 0, [], [], 0, 0, [], []⟩ : G_Contact) g.Stream_Contacts_1 := by kernel_rfl
theorem li_slices_CompactFunc__Contact_Stream_Contacts_1 [Fuel] : @slices_CompactFunc__Contact_Stream_Contacts_1 _ = @sComp G_Contact NN (⟨0, 0, [], [], 0, 0, [], []⟩ : G_Contact) (@Stream_Contacts_1 _) := lk_slices_CompactFunc__Contact_Stream_Contacts_1 I_slices_CompactFunc__Contact_Stream_Contacts_1
theorem lk_slices_Equal__Contact (g : Nat) : @slices_Equal__Contact_ g = @sEqual G_Contact g (fun x y => !(eq_G_Contact x y)) := by kernel_rfl
theorem li_slices_Equal__Contact [Fuel] : @slices_Equal__Contact _ = @sEqual G_Contact NN (fun x y => !(eq_G_Contact x y)) := lk_slices_Equal__Contact NN
theorem eq_G_Contact_is (x y : G_Contact) : eq_G_Contact x y = true ↔ x = y := by cases x; cases y; simp [eq_G_Contact]
end Go.Am
