/- The plain law, in Lean alone: K. No condition: lemmas for the claim. -/
import Derived.Test.YtoajjnhmofegcaaGreatDoorF1
import Derived.Test.YtoajjnhmofegcaaGreatDoorF2
import Derived.Test.YtoajjnhmofegcaaGreatDoorF3
import Derived.Test.YtoajjnhmofegcaaGreatDoorF4
import Derived.Test.YtoajjnhmofegcaaGreatDoorF5
import Derived.Test.YtoajjnhmofegcaaGreatDoorF6
import Derived.Test.YtoajjnhmofegcaaGreatDoorF7
import Derived.Test.YtoajjnhmofegcaaGreatDoorF8
import Derived.Test.YtoajjnhmofegcaaGreatDoorF9
import Derived.Test.YtoajjnhmofegcaaGreatDoorF10
import Derived.Test.YtoajjnhmofegcaaGreatDoorPlB1
namespace Go.Am
open Go Go.Proofs
theorem yIfy (g:C_z1z):@z1z_ g = @sIns G_Deed g.N g.z2z:=by kernel_rfl
theorem yIiy [Fuel]:@z1z _ = @sIns G_Deed NN (@z2z _):=yIfy I_z1z
theorem yH0y (g:C_z0z):@z0z_ g = @sSta G_Deed g.N g.z1z:=by kernel_rfl
theorem yJmy [Fuel]:@z0z _ = @sSta G_Deed NN (@z1z _):=yH0y I_z0z
theorem yIoy (g:C_z5z):@z5z_ g = @ynFy G_Deed G_Deed g.N g.z9z:=by kernel_rfl
theorem yIry [Fuel]:@z5z _ = @ynFy G_Deed G_Deed NN (@z9z _):=yIoy I_z5z
theorem yE2y (g:Nat):@z31z_ g = @yqZy G_Deed g (fun x y=>!(yaoy x y)):=by kernel_rfl
theorem yG1y [Fuel]:@z31z _ = @yqZy G_Deed NN (fun x y=>!(yaoy x y)):=yE2y NN
theorem yefy:@yaay = @aget (List UInt8) Int ycby:=by kernel_rfl
theorem yogy:@yaby = @aset (List UInt8) Int ycby:=by kernel_rfl
theorem yaRy:@yaFy = @aget G_net_own Bool yaUy:=by kernel_rfl
theorem ydvy:@yaMy = @aset G_net_own Bool yaUy:=by kernel_rfl
theorem ysIy (x y:List UInt8):ycby x y = true ↔ x = y:=by simp [ycby]
theorem ybny (x y:G_net_own):yaUy x y = true ↔ x = y:=by cases x;cases y;simp [yaUy]
theorem yb7y (x y:G_Contact):yaky x y = true ↔ x = y:=by cases x;cases y;simp [yaky]
theorem ycOy (x y:G_Deed):yaoy x y = true ↔ x = y:=by rcases x with ⟨_,_,_,_,⟨_,_,_,_,_,_,_,_⟩,_,_,_⟩;rcases y with ⟨_,_,_,_,⟨_,_,_,_,_,_,_,_⟩,_,_,_⟩;simp [yaoy,and_assoc]
end Go.Am
