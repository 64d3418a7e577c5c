/- The plain law, in Lean alone: K. No condition: lemmas for the claim. -/
import Derived.Test.YtdpapgakljjnnaaGreatDoorF1
import Derived.Test.YtdpapgakljjnnaaGreatDoorF2
import Derived.Test.YtdpapgakljjnnaaGreatDoorF3
import Derived.Test.YtdpapgakljjnnaaGreatDoorF4
import Derived.Test.YtdpapgakljjnnaaGreatDoorF5
import Derived.Test.YtdpapgakljjnnaaGreatDoorF6
import Derived.Test.YtdpapgakljjnnaaGreatDoorF7
import Derived.Test.YtdpapgakljjnnaaGreatDoorF8
import Derived.Test.YtdpapgakljjnnaaGreatDoorF9
import Derived.Test.YtdpapgakljjnnaaGreatDoorPlB4
namespace Go.Am
open Go Go.Proofs
theorem lk_z1z (g : C_z1z) : @z1z_ g = @sIns G_Deed g.N g.z2z := by kernel_rfl
theorem li_z1z [Fuel] : @z1z _ = @sIns G_Deed NN (@z2z _) := lk_z1z I_z1z
theorem lk_z0z (g : C_z0z) : @z0z_ g = @sSta G_Deed g.N g.z1z := by kernel_rfl
theorem li_z0z [Fuel] : @z0z _ = @sSta G_Deed NN (@z1z _) := lk_z0z I_z0z
theorem lk_z4z (g : C_z4z) : @z4z_ g = @sIndexF G_Deed G_Deed g.N g.z12z := by kernel_rfl
theorem li_z4z [Fuel] : @z4z _ = @sIndexF G_Deed G_Deed NN (@z12z _) := lk_z4z I_z4z
theorem lk_z13z (g : C_z13z) : @z13z_ g = @sCat G_Deed g.N 176 g.z56z := by kernel_rfl
theorem li_z13z [Fuel] : @z13z _ = @sCat G_Deed NN 176 (X_grow 176) := lk_z13z I_z13z
theorem lk_z6z (g : C_z6z) : @z6z_ g = @sIndexO G_Deed G_Deed g.N g.z23z := by kernel_rfl
theorem li_z6z [Fuel] : @z6z _ = @sIndexO G_Deed G_Deed NN (@z23z _) := lk_z6z I_z6z
theorem lk_z11z (g : Nat) : @z11z_ g = @sEqual G_Deed g (fun x y => !(eq_G_Deed x y)) := by kernel_rfl
theorem li_z11z [Fuel] : @z11z _ = @sEqual G_Deed NN (fun x y => !(eq_G_Deed x y)) := lk_z11z NN
theorem lk_z15z (g : Nat) : @z15z_ g = @sEqual Int g (fun x y => x != y) := by kernel_rfl
theorem li_z15z [Fuel] : @z15z _ = @sEqual Int NN (fun x y => x != y) := lk_z15z NN
theorem lm_get_string_int : @mget_string_int = @aget (List UInt8) Int keq_string := by kernel_rfl
theorem lm_set_string_int : @mset_string_int = @aset (List UInt8) Int keq_string := by kernel_rfl
theorem lm_get_net_own_bool : @mget_net_own_bool = @aget G_net_own Bool keq_net_own := by kernel_rfl
theorem lm_set_net_own_bool : @mset_net_own_bool = @aset G_net_own Bool keq_net_own := by kernel_rfl
theorem lm_get_net_own_Deed : @mget_net_own_Deed = @aget G_net_own G_Deed keq_net_own := by kernel_rfl
theorem lm_set_net_own_Deed : @mset_net_own_Deed = @aset G_net_own G_Deed keq_net_own := by kernel_rfl
theorem keq_string_is (x y : List UInt8) : keq_string x y = true ↔ x = y := by simp [keq_string]
theorem keq_net_own_is (x y : G_net_own) : keq_net_own x y = true ↔ x = y := by cases x; cases y; simp [keq_net_own]
theorem eq_G_Contact_is (x y : G_Contact) : eq_G_Contact x y = true ↔ x = y := by cases x; cases y; simp [eq_G_Contact]
theorem eq_G_Deed_is (x y : G_Deed) : eq_G_Deed x y = true ↔ x = y := by rcases x with ⟨_, _, _, _, ⟨_, _, _, _, _, _, _, _⟩, _, _, _⟩; rcases y with ⟨_, _, _, _, ⟨_, _, _, _, _, _, _, _⟩, _, _, _⟩; simp [eq_G_Deed, and_assoc]
end Go.Am
