/- The plain law, in Lean alone: K. No condition: lemmas for the claim. -/
import Derived.Test.YtjnhihfahcoekaaGreatDoorF1
import Derived.Test.YtjnhihfahcoekaaGreatDoorF2
import Derived.Test.YtjnhihfahcoekaaGreatDoorF3
import Derived.Test.YtjnhihfahcoekaaGreatDoorF4
import Derived.Test.YtjnhihfahcoekaaGreatDoorF5
import Derived.Test.YtjnhihfahcoekaaGreatDoorF6
import Derived.Test.YtjnhihfahcoekaaGreatDoorF7
import Derived.Test.YtjnhihfahcoekaaGreatDoorF8
import Derived.Test.YtjnhihfahcoekaaGreatDoorF9
import Derived.Test.YtjnhihfahcoekaaGreatDoorF10
import Derived.Test.YtjnhihfahcoekaaGreatDoorF11
import Derived.Test.YtjnhihfahcoekaaGreatDoorPlB4
namespace Go.Am
open Go Go.Proofs
theorem lk_z1z (g : C_z1z) : @z1z_ g = @sIns G_Contact g.N g.z5z := by kernel_rfl
theorem li_z1z [Fuel] : @z1z _ = @sIns G_Contact NN (@z5z _) := lk_z1z I_z1z
theorem lk_z0z (g : C_z0z) : @z0z_ g = @sSta G_Contact g.N g.z1z := by kernel_rfl
theorem li_z0z [Fuel] : @z0z _ = @sSta G_Contact NN (@z1z _) := lk_z0z I_z0z
theorem lk_z4z (g : C_z4z) : @z4z_ g = @sComp G_Contact g.N (⟨0, 0, [], [], 0, 0, [], []⟩ : G_Contact) g.z9z := by kernel_rfl
theorem li_z4z [Fuel] : @z4z _ = @sComp G_Contact NN (⟨0, 0, [], [], 0, 0, [], []⟩ : G_Contact) (@z9z _) := lk_z4z I_z4z
theorem lk_z10z (g : C_z10z) : @z10z_ g = @sCat G_Contact g.N 96 g.z67z := by kernel_rfl
theorem li_z10z [Fuel] : @z10z _ = @sCat G_Contact NN 96 (X_grow 96) := lk_z10z I_z10z
theorem lk_z3z (g : C_z3z) : @z3z_ g = @sIns G_Contact g.N g.z6z := by kernel_rfl
theorem li_z3z [Fuel] : @z3z _ = @sIns G_Contact NN (@z6z _) := lk_z3z I_z3z
theorem lk_z2z (g : C_z2z) : @z2z_ g = @sSta G_Contact g.N g.z3z := by kernel_rfl
theorem li_z2z [Fuel] : @z2z _ = @sSta G_Contact NN (@z3z _) := lk_z2z I_z2z
theorem lk_z16z (g : Nat) : @z16z_ g = @sComp G_Contact g (⟨0, 0, [], [], 0, 0, [], []⟩ : G_Contact) (fun x y {_} k => k (eq_G_Contact x y)) := by kernel_rfl
theorem li_z16z [Fuel] : @z16z _ = @sComp G_Contact NN (⟨0, 0, [], [], 0, 0, [], []⟩ : G_Contact) (fun x y {_} k => k (eq_G_Contact x y)) := lk_z16z NN
theorem lk_z38z (g : Nat) : @z38z_ g = @sEqual G_Contact g (fun x y => !(eq_G_Contact x y)) := by kernel_rfl
theorem li_z38z [Fuel] : @z38z _ = @sEqual G_Contact NN (fun x y => !(eq_G_Contact x y)) := lk_z38z NN
theorem lk_z42z (g : Nat) : @z42z_ g = @sEqual G_Change g (fun x y => !(eq_G_Change x y)) := by kernel_rfl
theorem li_z42z [Fuel] : @z42z _ = @sEqual G_Change NN (fun x y => !(eq_G_Change x y)) := lk_z42z NN
theorem lk_z52z (g : Nat) : @z52z_ g = @sIndexV Int Int g (fun x y => x == y) := by kernel_rfl
theorem li_z52z [Fuel] : @z52z _ = @sIndexV Int Int NN (fun x y => x == y) := lk_z52z NN
theorem lk_z11z (g : C_z11z) : @z11z_ g = @sIndexF G_Row G_Row g.N g.band_May_1 := by kernel_rfl
theorem li_z11z [Fuel] : @z11z _ = @sIndexF G_Row G_Row NN (@band_May_1 _) := lk_z11z I_z11z
theorem lm_get_Contact_Contact : @mget_Contact_Contact = @aget G_Contact G_Contact keq_Contact := by kernel_rfl
theorem lm_set_Contact_Contact : @mset_Contact_Contact = @aset G_Contact G_Contact keq_Contact := by kernel_rfl
theorem lm_del_Contact_Contact : @mdel_Contact_Contact = @adel G_Contact G_Contact keq_Contact := by kernel_rfl
theorem keq_Contact_is (x y : G_Contact) : keq_Contact x y = true ↔ x = y := by cases x; cases y; simp [keq_Contact]
theorem eq_G_Contact_is (x y : G_Contact) : eq_G_Contact x y = true ↔ x = y := by cases x; cases y; simp [eq_G_Contact]
theorem eq_G_Change_is (x y : G_Change) : eq_G_Change x y = true ↔ x = y := by rcases x with ⟨_, _, ⟨_, _, _, _, _, _, _, _⟩, ⟨_, _, _, _, _, _, _, _⟩⟩; rcases y with ⟨_, _, ⟨_, _, _, _, _, _, _, _⟩, ⟨_, _, _, _, _, _, _, _⟩⟩; simp [eq_G_Change, and_assoc]
end Go.Am
