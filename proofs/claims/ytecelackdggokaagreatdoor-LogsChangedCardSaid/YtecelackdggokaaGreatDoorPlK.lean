/- The plain law, in Lean alone: K. No condition: lemmas for the claim. -/
import Derived.Test.YtecelackdggokaaGreatDoorF1
import Derived.Test.YtecelackdggokaaGreatDoorF2
import Derived.Test.YtecelackdggokaaGreatDoorF3
import Derived.Test.YtecelackdggokaaGreatDoorF4
import Derived.Test.YtecelackdggokaaGreatDoorF5
import Derived.Test.YtecelackdggokaaGreatDoorF6
import Derived.Test.YtecelackdggokaaGreatDoorF7
import Derived.Test.YtecelackdggokaaGreatDoorF8
import Derived.Test.YtecelackdggokaaGreatDoorF9
import Derived.Test.YtecelackdggokaaGreatDoorPlB4
namespace Go.Am
open Go Go.Proofs
theorem lk_slices_insertionSortCmpFunc__Contact_Q_ContactOrder (g : C_slices_insertionSortCmpFunc__Contact_Q_ContactOrder) : @slices_insertionSortCmpFunc__Contact_Q_ContactOrder_ g = @sIns G_Contact g.N g.Q_ContactOrder := by kernel_rfl
theorem li_slices_insertionSortCmpFunc__Contact_Q_ContactOrder [Fuel] : @slices_insertionSortCmpFunc__Contact_Q_ContactOrder _ = @sIns G_Contact NN (@Q_ContactOrder _) := lk_slices_insertionSortCmpFunc__Contact_Q_ContactOrder I_slices_insertionSortCmpFunc__Contact_Q_ContactOrder
theorem lk_slices_stableCmpFunc__Contact_Q_ContactOrder (g : C_slices_stableCmpFunc__Contact_Q_ContactOrder) : @slices_stableCmpFunc__Contact_Q_ContactOrder_ g = @sSta G_Contact g.N g.slices_insertionSortCmpFunc__Contact_Q_ContactOrder := by kernel_rfl
theorem li_slices_stableCmpFunc__Contact_Q_ContactOrder [Fuel] : @slices_stableCmpFunc__Contact_Q_ContactOrder _ = @sSta G_Contact NN (@slices_insertionSortCmpFunc__Contact_Q_ContactOrder _) := lk_slices_stableCmpFunc__Contact_Q_ContactOrder I_slices_stableCmpFunc__Contact_Q_ContactOrder
theorem lk_slices_CompactFunc__Contact_Stream_Contacts_1 (g : C_slices_CompactFunc__Contact_Stream_Contacts_1) : @slices_CompactFunc__Contact_Stream_Contacts_1_ g = @sComp G_Contact g.N (⟨0, 0, [], [], 0, 0, [], []⟩ : G_Contact) g.Stream_Contacts_1 := by kernel_rfl
theorem li_slices_CompactFunc__Contact_Stream_Contacts_1 [Fuel] : @slices_CompactFunc__Contact_Stream_Contacts_1 _ = @sComp G_Contact NN (⟨0, 0, [], [], 0, 0, [], []⟩ : G_Contact) (@Stream_Contacts_1 _) := lk_slices_CompactFunc__Contact_Stream_Contacts_1 I_slices_CompactFunc__Contact_Stream_Contacts_1
theorem lk_slices_Concat__Change (g : C_slices_Concat__Change) : @slices_Concat__Change_ g = @sCat G_Change g.N 208 g.slices_Grow__Change_n0 := by kernel_rfl
theorem li_slices_Concat__Change [Fuel] : @slices_Concat__Change _ = @sCat G_Change NN 208 (X_grow 208) := lk_slices_Concat__Change I_slices_Concat__Change
theorem lk_slices_insertionSortCmpFunc__Change_log_MergeChanges_1 (g : C_slices_insertionSortCmpFunc__Change_log_MergeChanges_1) : @slices_insertionSortCmpFunc__Change_log_MergeChanges_1_ g = @sIns G_Change g.N g.log_MergeChanges_1 := by kernel_rfl
theorem li_slices_insertionSortCmpFunc__Change_log_MergeChanges_1 [Fuel] : @slices_insertionSortCmpFunc__Change_log_MergeChanges_1 _ = @sIns G_Change NN (@log_MergeChanges_1 _) := lk_slices_insertionSortCmpFunc__Change_log_MergeChanges_1 I_slices_insertionSortCmpFunc__Change_log_MergeChanges_1
theorem lk_slices_stableCmpFunc__Change_log_MergeChanges_1 (g : C_slices_stableCmpFunc__Change_log_MergeChanges_1) : @slices_stableCmpFunc__Change_log_MergeChanges_1_ g = @sSta G_Change g.N g.slices_insertionSortCmpFunc__Change_log_MergeChanges_1 := by kernel_rfl
theorem li_slices_stableCmpFunc__Change_log_MergeChanges_1 [Fuel] : @slices_stableCmpFunc__Change_log_MergeChanges_1 _ = @sSta G_Change NN (@slices_insertionSortCmpFunc__Change_log_MergeChanges_1 _) := lk_slices_stableCmpFunc__Change_log_MergeChanges_1 I_slices_stableCmpFunc__Change_log_MergeChanges_1
theorem lk_slices_Compact__Change (g : Nat) : @slices_Compact__Change_ g = @sComp G_Change g (⟨0, 0, (⟨0, 0, [], [], 0, 0, [], []⟩ : G_Contact), (⟨0, 0, [], [], 0, 0, [], []⟩ : G_Contact)⟩ : G_Change) (fun x y {_} k => k (eq_G_Change x y)) := by kernel_rfl
theorem li_slices_Compact__Change [Fuel] : @slices_Compact__Change _ = @sComp G_Change NN (⟨0, 0, (⟨0, 0, [], [], 0, 0, [], []⟩ : G_Contact), (⟨0, 0, [], [], 0, 0, [], []⟩ : G_Contact)⟩ : G_Change) (fun x y {_} k => k (eq_G_Change x y)) := lk_slices_Compact__Change NN
theorem lk_slices_IndexFunc__Change_Q_ChangesOf_1 (g : C_slices_IndexFunc__Change_Q_ChangesOf_1) : @slices_IndexFunc__Change_Q_ChangesOf_1_ g = @sIndexO G_Change G_Change g.N g.Q_ChangesOf_1 := by kernel_rfl
theorem li_slices_IndexFunc__Change_Q_ChangesOf_1 [Fuel] : @slices_IndexFunc__Change_Q_ChangesOf_1 _ = @sIndexO G_Change G_Change NN (@Q_ChangesOf_1 _) := lk_slices_IndexFunc__Change_Q_ChangesOf_1 I_slices_IndexFunc__Change_Q_ChangesOf_1
theorem lk_slices_IndexFunc__Contact_Q_ChangedLog_1 (g : C_slices_IndexFunc__Contact_Q_ChangedLog_1) : @slices_IndexFunc__Contact_Q_ChangedLog_1_ g = @sIndexO G_Contact G_Change g.N g.Q_ChangedLog_1 := by kernel_rfl
theorem li_slices_IndexFunc__Contact_Q_ChangedLog_1 [Fuel] : @slices_IndexFunc__Contact_Q_ChangedLog_1 _ = @sIndexO G_Contact G_Change NN (@Q_ChangedLog_1 _) := lk_slices_IndexFunc__Contact_Q_ChangedLog_1 I_slices_IndexFunc__Contact_Q_ChangedLog_1
theorem lk_slices_DeleteFunc__Contact_Q_ChangedLog_1 (g : C_slices_DeleteFunc__Contact_Q_ChangedLog_1) : @slices_DeleteFunc__Contact_Q_ChangedLog_1_ g = @sDel G_Contact G_Change g.N (⟨0, 0, [], [], 0, 0, [], []⟩ : G_Contact) g.Q_ChangedLog_1 g.slices_IndexFunc__Contact_Q_ChangedLog_1 := by kernel_rfl
theorem li_slices_DeleteFunc__Contact_Q_ChangedLog_1 [Fuel] : @slices_DeleteFunc__Contact_Q_ChangedLog_1 _ = @sDel G_Contact G_Change NN (⟨0, 0, [], [], 0, 0, [], []⟩ : G_Contact) (@Q_ChangedLog_1 _) (@slices_IndexFunc__Contact_Q_ChangedLog_1 _) := lk_slices_DeleteFunc__Contact_Q_ChangedLog_1 I_slices_DeleteFunc__Contact_Q_ChangedLog_1
theorem lk_slices_IndexFunc__Contact_Q_ChangedLog_2 (g : C_slices_IndexFunc__Contact_Q_ChangedLog_2) : @slices_IndexFunc__Contact_Q_ChangedLog_2_ g = @sIndexF G_Contact G_Change g.N g.Q_ChangedLog_2 := by kernel_rfl
theorem li_slices_IndexFunc__Contact_Q_ChangedLog_2 [Fuel] : @slices_IndexFunc__Contact_Q_ChangedLog_2 _ = @sIndexF G_Contact G_Change NN (@Q_ChangedLog_2 _) := lk_slices_IndexFunc__Contact_Q_ChangedLog_2 I_slices_IndexFunc__Contact_Q_ChangedLog_2
theorem lk_slices_Equal__Change (g : Nat) : @slices_Equal__Change_ g = @sEqual G_Change g (fun x y => !(eq_G_Change x y)) := by kernel_rfl
theorem li_slices_Equal__Change [Fuel] : @slices_Equal__Change _ = @sEqual G_Change NN (fun x y => !(eq_G_Change x y)) := lk_slices_Equal__Change NN
theorem lk_slices_Equal__Contact (g : Nat) : @slices_Equal__Contact_ g = @sEqual G_Contact g (fun x y => !(eq_G_Contact x y)) := by kernel_rfl
theorem li_slices_Equal__Contact [Fuel] : @slices_Equal__Contact _ = @sEqual G_Contact NN (fun x y => !(eq_G_Contact x y)) := lk_slices_Equal__Contact NN
theorem lk_slices_Equal__int (g : Nat) : @slices_Equal__int_ g = @sEqual Int g (fun x y => x != y) := by kernel_rfl
theorem li_slices_Equal__int [Fuel] : @slices_Equal__int _ = @sEqual Int NN (fun x y => x != y) := lk_slices_Equal__int NN
theorem lm_get_Contact_Contact : @mget_Contact_Contact = @aget G_Contact G_Contact keq_Contact := by kernel_rfl
theorem lm_set_Contact_Contact : @mset_Contact_Contact = @aset G_Contact G_Contact keq_Contact := by kernel_rfl
theorem lm_del_Contact_Contact : @mdel_Contact_Contact = @adel G_Contact G_Contact keq_Contact := by kernel_rfl
theorem keq_Contact_is (x y : G_Contact) : keq_Contact x y = true ↔ x = y := by cases x; cases y; simp [keq_Contact]
theorem eq_G_Contact_is (x y : G_Contact) : eq_G_Contact x y = true ↔ x = y := by cases x; cases y; simp [eq_G_Contact]
theorem eq_G_Change_is (x y : G_Change) : eq_G_Change x y = true ↔ x = y := by rcases x with ⟨_, _, ⟨_, _, _, _, _, _, _, _⟩, ⟨_, _, _, _, _, _, _, _⟩⟩; rcases y with ⟨_, _, ⟨_, _, _, _, _, _, _, _⟩, ⟨_, _, _, _, _, _, _, _⟩⟩; simp [eq_G_Change, and_assoc]
end Go.Am
