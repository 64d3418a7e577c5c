/- The plain law, in Lean alone: K. No condition: lemmas for the claim. -/
import Derived.Test.YtphcgliehecbkaaGreatDoorF1
import Derived.Test.YtphcgliehecbkaaGreatDoorF2
import Derived.Test.YtphcgliehecbkaaGreatDoorF3
import Derived.Test.YtphcgliehecbkaaGreatDoorF4
import Derived.Test.YtphcgliehecbkaaGreatDoorF5
import Derived.Test.YtphcgliehecbkaaGreatDoorF6
import Derived.Test.YtphcgliehecbkaaGreatDoorF7
import Derived.Test.YtphcgliehecbkaaGreatDoorF8
import Derived.Test.YtphcgliehecbkaaGreatDoorF9
import Derived.Test.YtphcgliehecbkaaGreatDoorF10
import Derived.Test.YtphcgliehecbkaaGreatDoorPlB4
namespace Go.Am
open Go Go.Proofs
theorem yI8y (g:C_z1z):@z1z_ g = @sIns G_Deed g.N g.z2z:=by kernel_rfl
theorem yJcy [Fuel]:@z1z _ = @sIns G_Deed NN (@z2z _):=yI8y I_z1z
theorem yIry (g:C_z0z):@z0z_ g = @sSta G_Deed g.N g.z1z:=by kernel_rfl
theorem yIAy [Fuel]:@z0z _ = @sSta G_Deed NN (@z1z _):=yIry I_z0z
theorem yIxy (g:C_z5z):@z5z_ g = @ygOy G_Deed G_Deed g.N g.z9z:=by kernel_rfl
theorem yIoy [Fuel]:@z5z _ = @ygOy G_Deed G_Deed NN (@z9z _):=yIxy I_z5z
theorem yFey (g:C_z10z):@z10z_ g = @sCat G_Deed g.N 176 g.z69z:=by kernel_rfl
theorem yF3y [Fuel]:@z10z _ = @sCat G_Deed NN 176 (ygey 176):=yFey ydvy
theorem yGby (g:Nat):@z40z_ g = @yozy G_Deed g (fun x y=>!(yaUy x y)):=by kernel_rfl
theorem yHjy [Fuel]:@z40z _ = @yozy G_Deed NN (fun x y=>!(yaUy x y)):=yGby NN
theorem yFdy (g:Nat):@z43z_ g = @ymsy Int Int g (fun x y=>x == y):=by kernel_rfl
theorem yFJy [Fuel]:@z43z _ = @ymsy Int Int NN (fun x y=>x == y):=yFdy NN
theorem yIhy (g:C_z6z):@z6z_ g = @ygOy G_Row G_Row g.N g.band_May_1:=by kernel_rfl
theorem yJuy [Fuel]:@z6z _ = @ygOy G_Row G_Row NN (@band_May_1 _):=yIhy I_z6z
theorem ydoy:@yaay = @aget (List UInt8) Int ya5y:=by kernel_rfl
theorem ymRy:@yaby = @aset (List UInt8) Int ya5y:=by kernel_rfl
theorem ykzy:@ybiy = @aset (List UInt8) Bool ya5y:=by kernel_rfl
theorem ykiy (x y:List UInt8):ya5y x y = true ↔ x = y:=by simp [ya5y]
theorem ytHy (x y:G_Deed):yaUy x y = true ↔ x = y:=by rcases x with ⟨_,_,_,_,⟨_,_,_,_,_,_,_,_⟩,_,_,_⟩; rcases y with ⟨_,_,_,_,⟨_,_,_,_,_,_,_,_⟩,_,_,_⟩; simp [yaUy,and_assoc]
end Go.Am
