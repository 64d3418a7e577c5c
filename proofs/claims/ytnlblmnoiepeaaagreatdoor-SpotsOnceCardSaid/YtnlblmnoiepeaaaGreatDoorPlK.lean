/- The plain law, in Lean alone: K. No condition: lemmas for the claim. -/
import Derived.Test.YtnlblmnoiepeaaaGreatDoorF1
import Derived.Test.YtnlblmnoiepeaaaGreatDoorF2
import Derived.Test.YtnlblmnoiepeaaaGreatDoorF3
import Derived.Test.YtnlblmnoiepeaaaGreatDoorF4
import Derived.Test.YtnlblmnoiepeaaaGreatDoorF5
import Derived.Test.YtnlblmnoiepeaaaGreatDoorF6
import Derived.Test.YtnlblmnoiepeaaaGreatDoorF7
import Derived.Test.YtnlblmnoiepeaaaGreatDoorF8
import Derived.Test.YtnlblmnoiepeaaaGreatDoorF9
import Derived.Test.YtnlblmnoiepeaaaGreatDoorF10
import Derived.Test.YtnlblmnoiepeaaaGreatDoorF11
import Derived.Test.YtnlblmnoiepeaaaGreatDoorF12
import Derived.Test.YtnlblmnoiepeaaaGreatDoorF13
import Derived.Test.YtnlblmnoiepeaaaGreatDoorPlB4
namespace Go.Am
open Go Go.Proofs
theorem yNny (g:C_z8z):@z8z_ g = @sIns G_Spot g.N g.z10z:=by kernel_rfl
theorem yNyy [Fuel]:@z8z _ = @sIns G_Spot NN (@z10z _):=yNny I_z8z
theorem yN8y (g:C_z7z):@z7z_ g = @sSta G_Spot g.N g.z8z:=by kernel_rfl
theorem yN9y [Fuel]:@z7z _ = @sSta G_Spot NN (@z8z _):=yN8y I_z7z
theorem yLfy (g:Nat):@z22z_ g = @sComp G_Spot g (⟨0,0,[],[]⟩:G_Spot) (fun x y {_} k=>k (ycVy x y)):=by kernel_rfl
theorem yKpy [Fuel]:@z22z _ = @sComp G_Spot NN (⟨0,0,[],[]⟩:G_Spot) (fun x y {_} k=>k (ycVy x y)):=yLfy NN
theorem yJyy (g:C_z11z):@z11z_ g = @yeOy G_Band G_Band g.N g.z17z:=by kernel_rfl
theorem yLYy [Fuel]:@z11z _ = @yeOy G_Band G_Band NN (@z17z _):=yJyy yity
theorem yMjy (g:C_z14z):@z14z_ g = @yeOy G_Band Int g.N g.log_At_1:=by kernel_rfl
theorem yILy [Fuel]:@z14z _ = @yeOy G_Band Int NN (@log_At_1 _):=yMjy yiwy
theorem yKJy (g:Nat):@z47z_ g = @ysKy (List UInt8) g (fun x y=>!(x == y)):=by kernel_rfl
theorem yMUy [Fuel]:@z47z _ = @ysKy (List UInt8) NN (fun x y=>!(x == y)):=yKJy NN
theorem yJBy (g:Nat):@z59z_ g = @yohy Int Int g (fun x y=>x == y):=by kernel_rfl
theorem yMgy [Fuel]:@z59z _ = @yohy Int Int NN (fun x y=>x == y):=yJBy NN
theorem yKRy (g:C_z13z):@z13z_ g = @yeOy G_Row G_Row g.N g.band_May_1:=by kernel_rfl
theorem yMXy [Fuel]:@z13z _ = @yeOy G_Row G_Row NN (@band_May_1 _):=yKRy yijy
theorem yiEy:@ybfy = @aget G_band_worked Bool ydky:=by kernel_rfl
theorem ychy:@yany = @aget G_band_onBand Bool ybdy:=by kernel_rfl
theorem yiFy:@yaWy = @aset G_band_onBand Bool ybdy:=by kernel_rfl
theorem ydyy (x y:G_band_onBand):ybdy x y = true ↔ x = y:=by cases x; cases y; simp [ybdy]
end Go.Am
