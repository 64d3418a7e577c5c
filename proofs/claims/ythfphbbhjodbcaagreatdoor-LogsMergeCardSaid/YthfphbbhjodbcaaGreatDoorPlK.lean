/- The plain law, in Lean alone: K. No condition: lemmas for the claim. -/
import Derived.Test.YthfphbbhjodbcaaGreatDoorF1
import Derived.Test.YthfphbbhjodbcaaGreatDoorF2
import Derived.Test.YthfphbbhjodbcaaGreatDoorF3
import Derived.Test.YthfphbbhjodbcaaGreatDoorF4
import Derived.Test.YthfphbbhjodbcaaGreatDoorF5
import Derived.Test.YthfphbbhjodbcaaGreatDoorF6
import Derived.Test.YthfphbbhjodbcaaGreatDoorF7
import Derived.Test.YthfphbbhjodbcaaGreatDoorPlB4
namespace Go.Am
open Go Go.Proofs
theorem lk_slices_insertionSortCmpFunc__Contact_Q_ContactOrder (g : C_slices_insertionSortCmpFunc__Contact_Q_ContactOrder) : @slices_insertionSortCmpFunc__Contact_Q_ContactOrder_ g = @sIns G_Contact g.N g.Q_ContactOrder := by kernel_rfl
theorem li_slices_insertionSortCmpFunc__Contact_Q_ContactOrder [Fuel] : @slices_insertionSortCmpFunc__Contact_Q_ContactOrder _ = @sIns G_Contact NN (@Q_ContactOrder _) := lk_slices_insertionSortCmpFunc__Contact_Q_ContactOrder I_slices_insertionSortCmpFunc__Contact_Q_ContactOrder
theorem lk_slices_stableCmpFunc__Contact_Q_ContactOrder (g : C_slices_stableCmpFunc__Contact_Q_ContactOrder) : @slices_stableCmpFunc__Contact_Q_ContactOrder_ g = @sSta G_Contact g.N g.slices_insertionSortCmpFunc__Contact_Q_ContactOrder := by kernel_rfl
theorem li_slices_stableCmpFunc__Contact_Q_ContactOrder [Fuel] : @slices_stableCmpFunc__Contact_Q_ContactOrder _ = @sSta G_Contact NN (@slices_insertionSortCmpFunc__Contact_Q_ContactOrder _) := lk_slices_stableCmpFunc__Contact_Q_ContactOrder I_slices_stableCmpFunc__Contact_Q_ContactOrder
theorem lk_slices_CompactFunc__Contact_Stream_Contacts_1 (g : C_slices_CompactFunc__Contact_Stream_Contacts_1) : @slices_CompactFunc__Contact_Stream_Contacts_1_ g = @sComp G_Contact g.N (⟨0, 0, [], [], 0, 0, [], []⟩ : G_Contact) g.Stream_Contacts_1 := by kernel_rfl
theorem li_slices_CompactFunc__Contact_Stream_Contacts_1 [Fuel] : @slices_CompactFunc__Contact_Stream_Contacts_1 _ = @sComp G_Contact NN (⟨0, 0, [], [], 0, 0, [], []⟩ : G_Contact) (@Stream_Contacts_1 _) := lk_slices_CompactFunc__Contact_Stream_Contacts_1 I_slices_CompactFunc__Contact_Stream_Contacts_1
theorem lk_slices_Concat__Contact (g : C_slices_Concat__Contact) : @slices_Concat__Contact_ g = @sCat G_Contact g.N 96 g.slices_Grow__Contact_n0 := by kernel_rfl
theorem li_slices_Concat__Contact [Fuel] : @slices_Concat__Contact _ = @sCat G_Contact NN 96 (X_grow 96) := lk_slices_Concat__Contact I_slices_Concat__Contact
theorem lk_slices_insertionSortCmpFunc__Contact_log_Compare (g : C_slices_insertionSortCmpFunc__Contact_log_Compare) : @slices_insertionSortCmpFunc__Contact_log_Compare_ g = @sIns G_Contact g.N g.log_Compare := by kernel_rfl
theorem li_slices_insertionSortCmpFunc__Contact_log_Compare [Fuel] : @slices_insertionSortCmpFunc__Contact_log_Compare _ = @sIns G_Contact NN (@log_Compare _) := lk_slices_insertionSortCmpFunc__Contact_log_Compare I_slices_insertionSortCmpFunc__Contact_log_Compare
theorem lk_slices_stableCmpFunc__Contact_log_Compare (g : C_slices_stableCmpFunc__Contact_log_Compare) : @slices_stableCmpFunc__Contact_log_Compare_ g = @sSta G_Contact g.N g.slices_insertionSortCmpFunc__Contact_log_Compare := by kernel_rfl
theorem li_slices_stableCmpFunc__Contact_log_Compare [Fuel] : @slices_stableCmpFunc__Contact_log_Compare _ = @sSta G_Contact NN (@slices_insertionSortCmpFunc__Contact_log_Compare _) := lk_slices_stableCmpFunc__Contact_log_Compare I_slices_stableCmpFunc__Contact_log_Compare
theorem lk_slices_Compact__Contact (g : Nat) : @slices_Compact__Contact_ g = @sComp G_Contact g (⟨0, 0, [], [], 0, 0, [], []⟩ : G_Contact) (fun x y {_} k => k (eq_G_Contact x y)) := by kernel_rfl
theorem li_slices_Compact__Contact [Fuel] : @slices_Compact__Contact _ = @sComp G_Contact NN (⟨0, 0, [], [], 0, 0, [], []⟩ : G_Contact) (fun x y {_} k => k (eq_G_Contact x y)) := lk_slices_Compact__Contact NN
theorem lk_slices_Index__Contact (g : Nat) : @slices_Index__Contact_ g = @sIndex G_Contact G_Contact g eq_G_Contact := by kernel_rfl
theorem li_slices_Index__Contact [Fuel] : @slices_Index__Contact _ = @sIndex G_Contact G_Contact NN eq_G_Contact := lk_slices_Index__Contact NN
theorem lk_slices_IndexFunc__Contact_Q_LackingOf_1 (g : C_slices_IndexFunc__Contact_Q_LackingOf_1) : @slices_IndexFunc__Contact_Q_LackingOf_1_ g = @sIndexO G_Contact (List G_Contact) g.N g.Q_LackingOf_1 := by kernel_rfl
theorem li_slices_IndexFunc__Contact_Q_LackingOf_1 [Fuel] : @slices_IndexFunc__Contact_Q_LackingOf_1 _ = @sIndexO G_Contact (List G_Contact) NN (@Q_LackingOf_1 _) := lk_slices_IndexFunc__Contact_Q_LackingOf_1 I_slices_IndexFunc__Contact_Q_LackingOf_1
theorem lk_slices_DeleteFunc__Contact_Q_LackingOf_1 (g : C_slices_DeleteFunc__Contact_Q_LackingOf_1) : @slices_DeleteFunc__Contact_Q_LackingOf_1_ g = @sDel G_Contact (List G_Contact) g.N (⟨0, 0, [], [], 0, 0, [], []⟩ : G_Contact) g.Q_LackingOf_1 g.slices_IndexFunc__Contact_Q_LackingOf_1 := by kernel_rfl
theorem li_slices_DeleteFunc__Contact_Q_LackingOf_1 [Fuel] : @slices_DeleteFunc__Contact_Q_LackingOf_1 _ = @sDel G_Contact (List G_Contact) NN (⟨0, 0, [], [], 0, 0, [], []⟩ : G_Contact) (@Q_LackingOf_1 _) (@slices_IndexFunc__Contact_Q_LackingOf_1 _) := lk_slices_DeleteFunc__Contact_Q_LackingOf_1 I_slices_DeleteFunc__Contact_Q_LackingOf_1
theorem lk_slices_Equal__Contact (g : Nat) : @slices_Equal__Contact_ g = @sEqual G_Contact g (fun x y => !(eq_G_Contact x y)) := by kernel_rfl
theorem li_slices_Equal__Contact [Fuel] : @slices_Equal__Contact _ = @sEqual G_Contact NN (fun x y => !(eq_G_Contact x y)) := lk_slices_Equal__Contact NN
theorem lm_get_Contact_bool : @mget_Contact_bool = @aget G_Contact Bool keq_Contact := by kernel_rfl
theorem lm_set_Contact_bool : @mset_Contact_bool = @aset G_Contact Bool keq_Contact := by kernel_rfl
theorem keq_Contact_is (x y : G_Contact) : keq_Contact x y = true ↔ x = y := by cases x; cases y; simp [keq_Contact]
theorem eq_G_Contact_is (x y : G_Contact) : eq_G_Contact x y = true ↔ x = y := by cases x; cases y; simp [eq_G_Contact]
end Go.Am
