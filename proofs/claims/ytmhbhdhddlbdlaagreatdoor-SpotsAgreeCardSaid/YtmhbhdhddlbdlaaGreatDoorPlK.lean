/- The plain law, in Lean alone: K. No condition: lemmas for the claim. -/
import Derived.Test.YtmhbhdhddlbdlaaGreatDoorF1
import Derived.Test.YtmhbhdhddlbdlaaGreatDoorF2
import Derived.Test.YtmhbhdhddlbdlaaGreatDoorF3
import Derived.Test.YtmhbhdhddlbdlaaGreatDoorF4
import Derived.Test.YtmhbhdhddlbdlaaGreatDoorF5
import Derived.Test.YtmhbhdhddlbdlaaGreatDoorF6
import Derived.Test.YtmhbhdhddlbdlaaGreatDoorF7
import Derived.Test.YtmhbhdhddlbdlaaGreatDoorF8
import Derived.Test.YtmhbhdhddlbdlaaGreatDoorF9
import Derived.Test.YtmhbhdhddlbdlaaGreatDoorF10
import Derived.Test.YtmhbhdhddlbdlaaGreatDoorPlB1
namespace Go.Am
open Go Go.Proofs
theorem yKsy (g:C_z1z):@z1z_ g = @sIns G_Spot g.N g.z2z:=by kernel_rfl
theorem yKmy [Fuel]:@z1z _ = @sIns G_Spot NN (@z2z _):=yKsy I_z1z
theorem yKVy (g:C_z0z):@z0z_ g = @sSta G_Spot g.N g.z1z:=by kernel_rfl
theorem yLby [Fuel]:@z0z _ = @sSta G_Spot NN (@z1z _):=yKVy I_z0z
theorem yKHy (g:Nat):@z9z_ g = @sComp G_Spot g (⟨0,0,[],[]⟩:G_Spot) (fun x y {_} k=>k (yaZy x y)):=by kernel_rfl
theorem yLUy [Fuel]:@z9z _ = @sComp G_Spot NN (⟨0,0,[],[]⟩:G_Spot) (fun x y {_} k=>k (yaZy x y)):=yKHy NN
theorem yJ1y (g:C_z7z):@z7z_ g = @sCat G_Spot g.N 48 g.z72z:=by kernel_rfl
theorem yLJy [Fuel]:@z7z _ = @sCat G_Spot NN 48 (ygIy 48):=yJ1y I_z7z
theorem yIdy (g:Nat):@z38z_ g = @yrhy G_Spot g (fun x y=>!(yaZy x y)):=by kernel_rfl
theorem yJUy [Fuel]:@z38z _ = @yrhy G_Spot NN (fun x y=>!(yaZy x y)):=yIdy NN
theorem yGay (g:Nat):@z44z_ g = @ym6y Int Int g (fun x y=>x == y):=by kernel_rfl
theorem yHmy [Fuel]:@z44z _ = @ym6y Int Int NN (fun x y=>x == y):=yGay NN
theorem yKwy (g:C_z5z):@z5z_ g = @ymYy G_Row G_Row g.N g.band_May_1:=by kernel_rfl
theorem yJ6y [Fuel]:@z5z _ = @ymYy G_Row G_Row NN (@band_May_1 _):=yKwy I_z5z
theorem ylQy (x y:G_Spot):yaZy x y = true ↔ x = y:=by cases x; cases y; simp [yaZy]
end Go.Am
