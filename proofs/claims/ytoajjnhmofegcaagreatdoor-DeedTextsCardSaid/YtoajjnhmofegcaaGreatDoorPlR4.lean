/- The plain law, in Lean alone: R4, R5, R6, Y1, Y0. No condition: lemmas for the claim. -/
import Derived.Test.YtoajjnhmofegcaaGreatDoorPlR1
import Derived.Test.YtoajjnhmofegcaaGreatDoorPlS1
set_option linter.unusedVariables false
set_option linter.unusedSectionVars false
set_option linter.unusedSimpArgs false
set_option maxRecDepth 100000
namespace Go.Am
open Go Go.Proofs
variable [Fuel]
end Go.Am
set_option linter.unusedVariables false
set_option linter.unusedSectionVars false
set_option linter.unusedSimpArgs false
set_option maxRecDepth 100000
namespace Go.Am
open Go Go.Proofs
variable [Fuel]
end Go.Am
set_option linter.unusedVariables false
set_option linter.unusedSectionVars false
set_option linter.unusedSimpArgs false
set_option maxRecDepth 100000
namespace Go.Am
open Go Go.Proofs
variable [Fuel]
end Go.Am
set_option linter.unusedVariables false
set_option linter.unusedSectionVars false
set_option linter.unusedSimpArgs false
set_option maxRecDepth 100000
namespace Go.Am
open Go Go.Proofs
variable [Fuel]
theorem yBqy {α:Type} {call:CmpT α} (R:Type) (k:List α→Option R):yeay call [] k = k []:=by
 obtain ⟨ys,h1,_,h3⟩:=yzly (call:=call) (xs:=[]) (c:=fun _ _=>0) (by simp) (fun x hx y hy R k=>by cases hx) ⟨fun _ _ _ _=>.inl (Int.le_refl _),fun _ _ _ _ _ _ _ _=>Int.le_refl _,fun _ _ _ _=>by simp⟩
 rw [h3,List.perm_nil.1 h1]
def rdD:G_Deed:=⟨[97],1,0,3,⟨0,0,[],[],1,0,[],[]⟩,[],[],0⟩
theorem yDXy (R:Type) (k:Int→Option R):z77z [rdD] 0 k = k 0:=by
 obtain ⟨m,h,rfl⟩:=ycfy ‹Fuel›
 kernel_rfl
theorem yJEy:yksy ydDy [rdD] 0 (fun z0=>some (ye6y z0)) = some (ye6y [0]):=by
 obtain ⟨m,h,rfl⟩:=ycfy ‹Fuel›
 kernel_rfl
theorem yxgy (R:Type) (k:List Int→Option R):z17z [rdD] 0 k = k [0]:=by
 unfold z17z z17z_
 rw [yJEy]
 rfl
theorem yB5y (R:Type) (e0:List (G_net_own×Bool)→List (G_Contact×G_Deed)→List G_Deed→List G_Contact→List (List UInt8)→List Int→Option R) :
  z21z_L4 ycoy ycoy.N [rdD] (([0]:List Int).length:Int) 0 [] [] [0] [] [] [] [] e0 = e0 [(⟨[97],1⟩,true)] [] [rdD] [] [] []:=by
 obtain ⟨m,h,rfl⟩:=ycfy ‹Fuel›
 kernel_rfl
theorem yzZy (R:Type) (e0:List (G_net_own×Bool)→List G_Deed→List G_Contact→List (List UInt8)→List Int→Option R) :
  z21z_L25 ycoy ycoy.N (([]:List G_Contact).length:Int) 0 [(⟨[97],1⟩,true)] [] [rdD] [] [] [] e0 = e0 [(⟨[97],1⟩,true)] [rdD] [] [] []:=by
 obtain ⟨m,h,rfl⟩:=ycfy ‹Fuel›
 kernel_rfl
theorem yDhy (R:Type) (k0:Int→Option R) (k1:List G_Deed→List G_Contact→List (List UInt8)→List Int→List (G_net_own×Bool)→Int→Option R):z21z [rdD] 0 k0 k1 = k1 [rdD] [] [] [] [(⟨[97],1⟩,true)] 0:=by
 have h1:∀ k:List Int→Option R,ycoy.z17z [rdD] 0 k = k [0]:=fun k=>yxgy R k
 have h2:∀ k:List G_Contact→Option R,ycoy.z28z [] k = k []:=fun k=>yBqy R k
 simp only [z21z,z21z_,h1,yB5y,h2,yzZy]
 rfl
theorem yF9y (R:Type) (k:List (Int×Int)→List G_Deed→List G_Contact→List (List UInt8)→List Int→List (G_net_own×Bool)→Option R):z26z [rdD] [] [] [] [(⟨[97],1⟩,true)] k = k [] [rdD] [] [] [] [(⟨[97],1⟩,true)]:=by
 obtain ⟨m,h,rfl⟩:=ycfy ‹Fuel›
 kernel_rfl
theorem yAby (R:Type) (k:List (Int×Int)→List G_Deed→List G_Contact→List (List UInt8)→List Int→List (G_net_own×Bool)→Option R):z8z [rdD] [] [] [] [(⟨[97],1⟩,true)] k = k [(1,1)] [rdD] [] [] [] [(⟨[97],1⟩,true)]:=by
 have h:yjty NN [rdD] [] [] [] [(⟨[97],1⟩,true)] (fun z0 z1 z2 z3 z4 z5=>some (ygay (z0,z1,z2,z3,z4,z5))) = some (ygay ([(1,1)],[rdD],[],[],[],[(⟨[97],1⟩,true)])):=by
  obtain ⟨m,e,hm⟩:=yyoy
  obtain ⟨m,rfl⟩:∃ q,m = q + 1:=⟨m - 1,by omega⟩
  unfold yjty
  rw [e,z8z_L3]
  refine yuJy (by simp) fun p hp=>?_
  simp only [picks,List.map_nil,List.mem_cons,List.not_mem_nil,or_false] at hp
  subst hp
  rw [z8z_L3,yooy]
  kernel_rfl
 unfold z8z z8z_
 rw [h]
 rfl
theorem yEny (R:Type) (e0:Int→Int→List (G_net_own×Bool)→List G_Deed→List G_Contact→List (List UInt8)→List Int→Option R) (e1:List (G_net_own×Bool)→List G_Deed→List G_Contact→List (List UInt8)→List Int→Option R) :
  z12z_L3 yery yery.N 1 [] [(⟨[97],1⟩,true)] [(1,1)] [rdD] [] [] [] e0 e1 = e0 2 0 [(⟨[97],1⟩,true)] [rdD] [] [] []:=by
 obtain ⟨m,h,rfl⟩:=ycfy ‹Fuel›
 kernel_rfl
theorem yHby (R:Type) (k:Int→Int→Option R):net_Next [rdD] 0 k = k 2 0:=by
 have h1:∀ (k0:Int→Option R) (k1:List G_Deed→List G_Contact→List (List UInt8)→List Int→List (G_net_own×Bool)→Int→Option R),yhmy.z73z [rdD] 0 k0 k1 = k1 [rdD] [] [] [] [(⟨[97],1⟩,true)] 0:=fun k0 k1=>by
  have h2:∀ k:Int→Option R,ypEy.z77z [rdD] 0 k = k 0:=fun k=>yDXy R k
  have h3:∀ (k0:Int→Option R) (k1:List G_Deed→List G_Contact→List (List UInt8)→List Int→List (G_net_own×Bool)→Int→Option R),ypEy.z21z [rdD] 0 k0 k1 = k1 [rdD] [] [] [] [(⟨[97],1⟩,true)] 0:=fun k0 k1=>yDhy R k0 k1
  show z73z [rdD] 0 k0 k1 = _
  simp only [z73z,z73z_,h2,h3]
  rfl
 have h4:∀ k:List (Int×Int)→List G_Deed→List G_Contact→List (List UInt8)→List Int→List (G_net_own×Bool)→Option R,yery.z26z [rdD] [] [] [] [(⟨[97],1⟩,true)] k = k [] [rdD] [] [] [] [(⟨[97],1⟩,true)]:=fun k=>yF9y R k
 have h5:∀ k:List (Int×Int)→List G_Deed→List G_Contact→List (List UInt8)→List Int→List (G_net_own×Bool)→Option R,yery.z8z [rdD] [] [] [] [(⟨[97],1⟩,true)] k = k [(1,1)] [rdD] [] [] [] [(⟨[97],1⟩,true)]:=fun k=>yAby R k
 have h6:∀ k:Int→Int→List G_Deed→List G_Contact→List (List UInt8)→List Int→List (G_net_own×Bool)→Option R,yhmy.z12z [rdD] [] [] [] [(⟨[97],1⟩,true)] k = k 2 0 [rdD] [] [] [] [(⟨[97],1⟩,true)]:=fun k=>by
  show z12z [rdD] [] [] [] [(⟨[97],1⟩,true)] k = _
  simp only [z12z,z12z_,h4,h5,yEny]
 simp only [net_Next,ymey,h1,h6]
 rfl
end Go.Am
set_option linter.unusedVariables false
set_option linter.unusedSectionVars false
set_option linter.unusedSimpArgs false
set_option maxRecDepth 100000
namespace Go.Am
open Go Go.Proofs
variable [Fuel]
end Go.Am
