/- The plain law, in Lean alone: K. No condition: lemmas for the claim. -/
import Derived.Test.YtfmhkakoakcpgaaGreatDoorF1
import Derived.Test.YtfmhkakoakcpgaaGreatDoorF2
import Derived.Test.YtfmhkakoakcpgaaGreatDoorF3
import Derived.Test.YtfmhkakoakcpgaaGreatDoorF4
import Derived.Test.YtfmhkakoakcpgaaGreatDoorF5
import Derived.Test.YtfmhkakoakcpgaaGreatDoorF6
import Derived.Test.YtfmhkakoakcpgaaGreatDoorF7
import Derived.Test.YtfmhkakoakcpgaaGreatDoorF8
import Derived.Test.YtfmhkakoakcpgaaGreatDoorF9
import Derived.Test.YtfmhkakoakcpgaaGreatDoorF10
import Derived.Test.YtfmhkakoakcpgaaGreatDoorF11
import Derived.Test.YtfmhkakoakcpgaaGreatDoorPlB4
namespace Go.Am
open Go Go.Proofs
theorem yJLy (g:C_z1z):@z1z_ g = @sIns G_Deed g.N g.z2z:=by kernel_rfl
theorem yJTy [Fuel]:@z1z _ = @sIns G_Deed NN (@z2z _):=yJLy I_z1z
theorem yJiy (g:C_z0z):@z0z_ g = @sSta G_Deed g.N g.z1z:=by kernel_rfl
theorem yJCy [Fuel]:@z0z _ = @sSta G_Deed NN (@z1z _):=yJiy I_z0z
theorem yJRy (g:C_z5z):@z5z_ g = @yhFy G_Deed G_Deed g.N g.z10z:=by kernel_rfl
theorem yJ1y [Fuel]:@z5z _ = @yhFy G_Deed G_Deed NN (@z10z _):=yJRy I_z5z
theorem yJdy (g:C_z11z):@z11z_ g = @sCat G_Deed g.N 176 g.z71z:=by kernel_rfl
theorem yIIy [Fuel]:@z11z _ = @sCat G_Deed NN 176 (ydpy 176):=yJdy yd8y
theorem yKly (g:C_z6z):@z6z_ g = @sCat G_Contact g.N 96 g.z66z:=by kernel_rfl
theorem yJAy [Fuel]:@z6z _ = @sCat G_Contact NN 96 (ydpy 96):=yKly I_z6z
theorem yGZy (g:Nat):@z45z_ g = @yp6y Int g (fun x y=>x != y):=by kernel_rfl
theorem yHOy [Fuel]:@z45z _ = @yp6y Int NN (fun x y=>x != y):=yGZy NN
theorem yF2y (g:Nat):@z46z_ g = @yngy Int Int g (fun x y=>x == y):=by kernel_rfl
theorem yFoy [Fuel]:@z46z _ = @yngy Int Int NN (fun x y=>x == y):=yF2y NN
theorem yKMy (g:C_z7z):@z7z_ g = @yhFy G_Row G_Row g.N g.band_May_1:=by kernel_rfl
theorem yJmy [Fuel]:@z7z _ = @yhFy G_Row G_Row NN (@band_May_1 _):=yKMy I_z7z
theorem ydRy:@yaay = @aget (List UInt8) Int ybgy:=by kernel_rfl
theorem yn4y:@yaby = @aset (List UInt8) Int ybgy:=by kernel_rfl
theorem ymuy:@ya7y = @aset (List UInt8) Bool ybgy:=by kernel_rfl
theorem ylBy:@ybey = @aget G_Contact Bool yaQy:=by kernel_rfl
theorem ylAy:@ybKy = @aset G_Contact Bool yaQy:=by kernel_rfl
theorem yfWy:@yaly = @aget G_Contact G_Deed yaQy:=by kernel_rfl
theorem ylEy:@yaIy = @aset G_Contact G_Deed yaQy:=by kernel_rfl
theorem ydky:@ya1y = @aget G_net_own Bool yaDy:=by kernel_rfl
theorem ylyy:@yaLy = @aset G_net_own Bool yaDy:=by kernel_rfl
theorem yfXy:@yany = @aget G_net_own G_Deed yaDy:=by kernel_rfl
theorem ylzy:@ybsy = @aset G_net_own G_Deed yaDy:=by kernel_rfl
theorem ycyy:@yaEy = @aget G_log_worked Bool ybqy:=by kernel_rfl
theorem yiVy:@ya6y = @aset G_log_worked Bool ybqy:=by kernel_rfl
theorem yg0y (x y:List UInt8):ybgy x y = true ↔ x = y:=by simp [ybgy]
theorem yb9y (x y:G_Contact):yaQy x y = true ↔ x = y:=by cases x; cases y; simp [yaQy]
theorem ybOy (x y:G_net_own):yaDy x y = true ↔ x = y:=by cases x; cases y; simp [yaDy]
theorem ydUy (x y:G_log_worked):ybqy x y = true ↔ x = y:=by cases x; cases y; simp [ybqy]
theorem yiAy (x y:G_Contact):ycdy x y = true ↔ x = y:=by cases x; cases y; simp [ycdy]
theorem ycMy (x y:G_Deed):ya0y x y = true ↔ x = y:=by rcases x with ⟨_,_,_,_,⟨_,_,_,_,_,_,_,_⟩,_,_,_⟩; rcases y with ⟨_,_,_,_,⟨_,_,_,_,_,_,_,_⟩,_,_,_⟩; simp [ya0y,and_assoc]
end Go.Am
