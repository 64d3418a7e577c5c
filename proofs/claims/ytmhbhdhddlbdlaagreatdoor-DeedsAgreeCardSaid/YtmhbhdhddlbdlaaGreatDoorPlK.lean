/- The plain law, in Lean alone: K. No condition: lemmas for the claim. -/
import Derived.Test.YtmhbhdhddlbdlaaGreatDoorF1
import Derived.Test.YtmhbhdhddlbdlaaGreatDoorF2
import Derived.Test.YtmhbhdhddlbdlaaGreatDoorF3
import Derived.Test.YtmhbhdhddlbdlaaGreatDoorF4
import Derived.Test.YtmhbhdhddlbdlaaGreatDoorF5
import Derived.Test.YtmhbhdhddlbdlaaGreatDoorF6
import Derived.Test.YtmhbhdhddlbdlaaGreatDoorF7
import Derived.Test.YtmhbhdhddlbdlaaGreatDoorF8
import Derived.Test.YtmhbhdhddlbdlaaGreatDoorF9
import Derived.Test.YtmhbhdhddlbdlaaGreatDoorF10
import Derived.Test.YtmhbhdhddlbdlaaGreatDoorF11
import Derived.Test.YtmhbhdhddlbdlaaGreatDoorPlB1
namespace Go.Am
open Go Go.Proofs
theorem yMSy (g:C_z1z):@z1z_ g = @sIns G_Deed g.N g.z2z:=by kernel_rfl
theorem yNxy [Fuel]:@z1z _ = @sIns G_Deed NN (@z2z _):=yMSy I_z1z
theorem yMBy (g:C_z0z):@z0z_ g = @sSta G_Deed g.N g.z1z:=by kernel_rfl
theorem yNNy [Fuel]:@z0z _ = @sSta G_Deed NN (@z1z _):=yMBy I_z0z
theorem yNZy (g:C_z4z):@z4z_ g = @yily G_Deed G_Deed g.N g.z9z:=by kernel_rfl
theorem yMgy [Fuel]:@z4z _ = @yily G_Deed G_Deed NN (@z9z _):=yNZy I_z4z
theorem yJoy (g:C_z11z):@z11z_ g = @sCat G_Deed g.N 176 g.z75z:=by kernel_rfl
theorem yIDy [Fuel]:@z11z _ = @sCat G_Deed NN 176 (yhsy 176):=yJoy yeuy
theorem yJiy (g:Nat):@z38z_ g = @yrGy G_Deed g (fun x y=>!(yaKy x y)):=by kernel_rfl
theorem yIYy [Fuel]:@z38z _ = @yrGy G_Deed NN (fun x y=>!(yaKy x y)):=yJiy NN
theorem yJBy (g:Nat):@z46z_ g = @yohy Int Int g (fun x y=>x == y):=by kernel_rfl
theorem yKmy [Fuel]:@z46z _ = @yohy Int Int NN (fun x y=>x == y):=yJBy NN
theorem yNRy (g:C_z6z):@z6z_ g = @yily G_Row G_Row g.N g.band_May_1:=by kernel_rfl
theorem yMxy [Fuel]:@z6z _ = @yily G_Row G_Row NN (@band_May_1 _):=yNRy I_z6z
theorem yedy:@yaay = @aget (List UInt8) Int ycHy:=by kernel_rfl
theorem ypmy:@yaby = @aset (List UInt8) Int ycHy:=by kernel_rfl
theorem ybqy:@yaSy = @aget G_net_own Bool yawy:=by kernel_rfl
theorem ygqy:@yaQy = @aset G_net_own Bool yawy:=by kernel_rfl
theorem ygry:@yamy = @aget G_net_own G_Deed yawy:=by kernel_rfl
theorem ymJy:@ybpy = @aset G_net_own G_Deed yawy:=by kernel_rfl
theorem yuYy (x y:List UInt8):ycHy x y = true ↔ x = y:=by simp [ycHy]
theorem ya6y (x y:G_net_own):yawy x y = true ↔ x = y:=by cases x;cases y;simp [yawy]
theorem yb5y (x y:G_Contact):yaMy x y = true ↔ x = y:=by cases x;cases y;simp [yaMy]
theorem ychy (x y:G_Deed):yaKy x y = true ↔ x = y:=by rcases x with ⟨_,_,_,_,⟨_,_,_,_,_,_,_,_⟩,_,_,_⟩;rcases y with ⟨_,_,_,_,⟨_,_,_,_,_,_,_,_⟩,_,_,_⟩;simp [yaKy,and_assoc]
end Go.Am
