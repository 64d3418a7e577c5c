/- The plain law, in Lean alone: K. No condition: lemmas for the claim. -/
import Derived.Test.YtfngnnmdgfkenaaGreatDoorF1
import Derived.Test.YtfngnnmdgfkenaaGreatDoorF2
import Derived.Test.YtfngnnmdgfkenaaGreatDoorF3
import Derived.Test.YtfngnnmdgfkenaaGreatDoorF4
import Derived.Test.YtfngnnmdgfkenaaGreatDoorF5
import Derived.Test.YtfngnnmdgfkenaaGreatDoorF6
import Derived.Test.YtfngnnmdgfkenaaGreatDoorF7
import Derived.Test.YtfngnnmdgfkenaaGreatDoorF8
import Derived.Test.YtfngnnmdgfkenaaGreatDoorF9
import Derived.Test.YtfngnnmdgfkenaaGreatDoorF10
import Derived.Test.YtfngnnmdgfkenaaGreatDoorF11
import Derived.Test.YtfngnnmdgfkenaaGreatDoorF12
import Derived.Test.YtfngnnmdgfkenaaGreatDoorF13
import Derived.Test.YtfngnnmdgfkenaaGreatDoorF14
import Derived.Test.YtfngnnmdgfkenaaGreatDoorF15
import Derived.Test.YtfngnnmdgfkenaaGreatDoorPlB4
namespace Go.Am
open Go Go.Proofs
theorem yRry (g:C_z6z):@z6z_ g = @sIns G_Segment g.N g.z8z:=by kernel_rfl
theorem yRLy [Fuel]:@z6z _ = @sIns G_Segment NN (@z8z _):=yRry I_z6z
theorem yRoy (g:C_z5z):@z5z_ g = @sSta G_Segment g.N g.z6z:=by kernel_rfl
theorem yRKy [Fuel]:@z5z _ = @sSta G_Segment NN (@z6z _):=yRoy I_z5z
theorem yORy (g:C_z10z):@z10z_ g = @sIns G_Busy g.N g.z14z:=by kernel_rfl
theorem yLRy [Fuel]:@z10z _ = @sIns G_Busy NN (@z14z _):=yORy yd8y
theorem yRXy (g:C_z7z):@z7z_ g = @sSta G_Busy g.N g.z10z:=by kernel_rfl
theorem yRdy [Fuel]:@z7z _ = @sSta G_Busy NN (@z10z _):=yRXy I_z7z
theorem yPmy (g:C_z13z):@z13z_ g = @sIns G_Spot g.N g.z16z:=by kernel_rfl
theorem yNOy [Fuel]:@z13z _ = @sIns G_Spot NN (@z16z _):=yPmy yeqy
theorem yNjy (g:C_z11z):@z11z_ g = @sSta G_Spot g.N g.z13z:=by kernel_rfl
theorem yNAy [Fuel]:@z11z _ = @sSta G_Spot NN (@z13z _):=yNjy ycFy
theorem yOLy (g:Nat):@z26z_ g = @sComp G_Spot g (⟨0,0,[],[]⟩:G_Spot) (fun x y {_} k=>k (ybdy x y)):=by kernel_rfl
theorem yO4y [Fuel]:@z26z _ = @sComp G_Spot NN (⟨0,0,[],[]⟩:G_Spot) (fun x y {_} k=>k (ybdy x y)):=yOLy NN
theorem yLYy (g:Nat):@z73z_ g = @yoBy Int Int g (fun x y=>x == y):=by kernel_rfl
theorem yNWy [Fuel]:@z73z _ = @yoBy Int Int NN (fun x y=>x == y):=yLYy NN
theorem yP7y (g:C_z24z):@z24z_ g = @sCat G_Spot g.N 48 g.z101z:=by kernel_rfl
theorem yNdy [Fuel]:@z24z _ = @sCat G_Spot NN 48 (yhDy 48):=yP7y yehy
theorem yLAy (g:C_z17z):@z17z_ g = @ye0y G_Band G_Band g.N g.z23z:=by kernel_rfl
theorem yMLy [Fuel]:@z17z _ = @ye0y G_Band G_Band NN (@z23z _):=yLAy yiCy
theorem yPSy (g:C_z20z):@z20z_ g = @ye0y G_Band Int g.N g.log_At_1:=by kernel_rfl
theorem yP5y [Fuel]:@z20z _ = @ye0y G_Band Int NN (@log_At_1 _):=yPSy yizy
theorem yLKy (g:Nat):@z72z_ g = @yepy Int g (fun x y=>x != y):=by kernel_rfl
theorem yQjy [Fuel]:@z72z _ = @yepy Int NN (fun x y=>x != y):=yLKy NN
theorem yMPy (g:Nat):@z66z_ g = @yepy G_Busy g (fun x y=>!(yhAy x y)):=by kernel_rfl
theorem yNuy [Fuel]:@z66z _ = @yepy G_Busy NN (fun x y=>!(yhAy x y)):=yMPy NN
theorem yLyy (g:Nat):@z67z_ g = @yepy G_Spot g (fun x y=>!(ybdy x y)):=by kernel_rfl
theorem yL7y [Fuel]:@z67z _ = @yepy G_Spot NN (fun x y=>!(ybdy x y)):=yLyy NN
theorem yOiy (g:Nat):@z65z_ g = @yepy G_Band g (fun x y=>!(yhPy x y)):=by kernel_rfl
theorem yLQy [Fuel]:@z65z _ = @yepy G_Band NN (fun x y=>!(yhPy x y)):=yOiy NN
theorem yPIy (g:C_z19z):@z19z_ g = @ye0y G_Row G_Row g.N g.band_May_1:=by kernel_rfl
theorem yP6y [Fuel]:@z19z _ = @ye0y G_Row G_Row NN (@band_May_1 _):=yPIy yiDy
theorem yb9y:@yamy = @aget G_band_onBand Bool ya8y:=by kernel_rfl
theorem yjey:@yaSy = @aset G_band_onBand Bool ya8y:=by kernel_rfl
theorem ydKy (x y:G_band_onBand):ya8y x y = true ↔ x = y:=by cases x; cases y; simp [ya8y]
theorem yyTy (x y:G_Spot):ybdy x y = true ↔ x = y:=by cases x; cases y; simp [ybdy]
theorem yuoy (x y:G_Window):yj3y x y = true ↔ x = y:=by cases x; cases y; simp [yj3y]
theorem yzpy (x y:G_Busy):yhAy x y = true ↔ x = y:=by rcases x with ⟨_,_,_,⟨_,_⟩⟩; rcases y with ⟨_,_,_,⟨_,_⟩⟩; simp [yhAy,and_assoc]
theorem yyOy (x y:G_Band):yhPy x y = true ↔ x = y:=by cases x; cases y; simp [yhPy]
end Go.Am
