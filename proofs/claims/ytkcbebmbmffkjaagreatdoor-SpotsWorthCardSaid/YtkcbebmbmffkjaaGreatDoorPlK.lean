/- The plain law, in Lean alone: K. No condition: lemmas for the claim. -/
import Derived.Test.YtkcbebmbmffkjaaGreatDoorF1
import Derived.Test.YtkcbebmbmffkjaaGreatDoorF2
import Derived.Test.YtkcbebmbmffkjaaGreatDoorF3
import Derived.Test.YtkcbebmbmffkjaaGreatDoorF4
import Derived.Test.YtkcbebmbmffkjaaGreatDoorF5
import Derived.Test.YtkcbebmbmffkjaaGreatDoorF6
import Derived.Test.YtkcbebmbmffkjaaGreatDoorF7
import Derived.Test.YtkcbebmbmffkjaaGreatDoorF8
import Derived.Test.YtkcbebmbmffkjaaGreatDoorF9
import Derived.Test.YtkcbebmbmffkjaaGreatDoorF10
import Derived.Test.YtkcbebmbmffkjaaGreatDoorF11
import Derived.Test.YtkcbebmbmffkjaaGreatDoorF12
import Derived.Test.YtkcbebmbmffkjaaGreatDoorF13
import Derived.Test.YtkcbebmbmffkjaaGreatDoorF14
import Derived.Test.YtkcbebmbmffkjaaGreatDoorPlB4
namespace Go.Am
open Go Go.Proofs
theorem yMSy (g:C_z11z):@z11z_ g = @sIns G_Spot g.N g.z20z:=by kernel_rfl
theorem yLmy [Fuel]:@z11z _ = @sIns G_Spot NN (@z20z _):=yMSy yd1y
theorem yOVy (g:C_z8z):@z8z_ g = @sSta G_Spot g.N g.z11z:=by kernel_rfl
theorem yONy [Fuel]:@z8z _ = @sSta G_Spot NN (@z11z _):=yOVy I_z8z
theorem yKSy (g:Nat):@z42z_ g = @sComp G_Spot g (⟨0,0,[],[]⟩:G_Spot) (fun x y {_} k=>k (ybty x y)):=by kernel_rfl
theorem yLVy [Fuel]:@z42z _ = @sComp G_Spot NN (⟨0,0,[],[]⟩:G_Spot) (fun x y {_} k=>k (ybty x y)):=yKSy NN
theorem yOKy (g:C_z6z):@z6z_ g = @sIns G_Contact g.N g.z13z:=by kernel_rfl
theorem yPWy [Fuel]:@z6z _ = @sIns G_Contact NN (@z13z _):=yOKy I_z6z
theorem yPZy (g:C_z5z):@z5z_ g = @sSta G_Contact g.N g.z6z:=by kernel_rfl
theorem yORy [Fuel]:@z5z _ = @sSta G_Contact NN (@z6z _):=yPZy I_z5z
theorem yM6y (g:C_z12z):@z12z_ g = @sComp G_Contact g.N (⟨0,0,[],[],0,0,[],[]⟩:G_Contact) g.z28z:=by kernel_rfl
theorem yMLy [Fuel]:@z12z _ = @sComp G_Contact NN (⟨0,0,[],[],0,0,[],[]⟩:G_Contact) (@z28z _):=yM6y yecy
theorem yNMy (g:C_z24z):@z24z_ g = @ydiy G_Band G_Band g.N g.z36z:=by kernel_rfl
theorem yKzy [Fuel]:@z24z _ = @ydiy G_Band G_Band NN (@z36z _):=yNMy yigy
theorem yNSy (g:C_z33z):@z33z_ g = @ydiy G_Band Int g.N g.log_At_1:=by kernel_rfl
theorem yKmy [Fuel]:@z33z _ = @ydiy G_Band Int NN (@log_At_1 _):=yNSy yiEy
theorem yJCy (g:C_z26z):@z26z_ g = @ydiy G_Band (List UInt8) g.N g.z58z:=by kernel_rfl
theorem yOsy [Fuel]:@z26z _ = @ydiy G_Band (List UInt8) NN (@z58z _):=yJCy yihy
theorem yNry (g:Nat):@z37z_ g = @ykqy G_Spot g (fun x y=>!(ybty x y)):=by kernel_rfl
theorem yJ0y [Fuel]:@z37z _ = @ykqy G_Spot NN (fun x y=>!(ybty x y)):=yNry NN
theorem yLUy (g:Nat):@z29z_ g = @ykqy (List UInt8) g (fun x y=>!(x == y)):=by kernel_rfl
theorem yMEy [Fuel]:@z29z _ = @ykqy (List UInt8) NN (fun x y=>!(x == y)):=yLUy NN
theorem yOly (g:Nat):@z75z_ g = @yoJy Int Int g (fun x y=>x == y):=by kernel_rfl
theorem yMhy [Fuel]:@z75z _ = @yoJy Int Int NN (fun x y=>x == y):=yOly NN
theorem yLBy (g:C_z32z):@z32z_ g = @ydiy G_Row G_Row g.N g.band_May_1:=by kernel_rfl
theorem yKQy [Fuel]:@z32z _ = @ydiy G_Row G_Row NN (@band_May_1 _):=yLBy yidy
theorem yL3y (g:Nat):@z57z_ g = @yj1y (List UInt8) g:=by kernel_rfl
theorem yNRy [Fuel]:@z57z _ = @yj1y (List UInt8) NN:=yL3y NN
theorem yJ1y (g:Nat):@z64z_ g = @yj1y G_Spot g:=by kernel_rfl
theorem yLJy [Fuel]:@z64z _ = @yj1y G_Spot NN:=yJ1y NN
theorem ycdy:@yaJy = @aget G_band_worked Bool ya3y:=by kernel_rfl
theorem yiRy:@ya9y = @aset G_band_worked Bool ya3y:=by kernel_rfl
theorem yccy:@yany = @aget G_band_onBand Bool ya5y:=by kernel_rfl
theorem yiSy:@yaTy = @aset G_band_onBand Bool ya5y:=by kernel_rfl
theorem yhqy (x y:G_band_worked):ya3y x y = true ↔ x = y:=by cases x; cases y; simp [ya3y]
theorem ydzy (x y:G_band_onBand):ya5y x y = true ↔ x = y:=by cases x; cases y; simp [ya5y]
theorem yxzy (x y:G_Spot):ybty x y = true ↔ x = y:=by cases x; cases y; simp [ybty]
end Go.Am
