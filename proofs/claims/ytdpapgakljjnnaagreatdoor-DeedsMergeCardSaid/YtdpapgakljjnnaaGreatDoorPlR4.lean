/- The plain law, in Lean alone: R4, R5, R6, Y1, Y0. No condition: lemmas for the claim. -/
import Derived.Test.YtdpapgakljjnnaaGreatDoorPlR1
import Derived.Test.YtdpapgakljjnnaaGreatDoorPlD1
set_option linter.unusedVariables false
set_option linter.unusedSectionVars false
set_option linter.unusedSimpArgs false
set_option maxRecDepth 100000
namespace Go.Am
open Go Go.Proofs
variable [Fuel]
end Go.Am
set_option linter.unusedVariables false
set_option linter.unusedSectionVars false
set_option linter.unusedSimpArgs false
set_option maxRecDepth 100000
namespace Go.Am
open Go Go.Proofs
variable [Fuel]
end Go.Am
set_option linter.unusedVariables false
set_option linter.unusedSectionVars false
set_option linter.unusedSimpArgs false
set_option maxRecDepth 100000
namespace Go.Am
open Go Go.Proofs
variable [Fuel]
end Go.Am
set_option linter.unusedVariables false
set_option linter.unusedSectionVars false
set_option linter.unusedSimpArgs false
set_option maxRecDepth 100000
namespace Go.Am
open Go Go.Proofs
variable [Fuel]
theorem sortQ_nil {α : Type} {call : CmpT α} (R : Type) (k : List α → Option R) : X_sortf call [] k = k [] := by
 obtain ⟨ys, h1, _, h3⟩ := X_sortf_is (call := call) (xs := []) (c := fun _ _ => 0) (by simp) (fun x hx y hy R k => by cases hx) ⟨fun _ _ _ _ => .inl (Int.le_refl _), fun _ _ _ _ _ _ _ _ => Int.le_refl _, fun _ _ _ _ => by simp⟩
 rw [h3, List.perm_nil.1 h1]
def rdD : G_Deed := ⟨[97], 1, 0, 3, ⟨0, 0, [], [], 1, 0, [], []⟩, [], [], 0⟩
theorem rd_asked (R : Type) (k : Int → Option R) : z49z [rdD] 0 k = k 0 := by
 obtain ⟨m, h, rfl⟩ := fuel_is ‹Fuel›
 kernel_rfl
theorem rd_raw : raw_z14z I_z14z [rdD] 0 (fun z0 => some (inj0_z14z z0)) = some (inj0_z14z [0]) := by
 obtain ⟨m, h, rfl⟩ := fuel_is ‹Fuel›
 kernel_rfl
theorem rd_counting (R : Type) (k : List Int → Option R) : z14z [rdD] 0 k = k [0] := by
 unfold z14z z14z_
 rw [rd_raw]
 rfl
theorem rd_state4 (R : Type) (e0 : List (G_net_own × Bool) → List (G_Contact × G_Deed) → List G_Deed → List G_Contact → List (List UInt8) → List Int → Option R) :
  z22z_L4 I_z22z I_z22z.N [rdD] (([0] : List Int).length : Int) 0 [] [] [0] [] [] [] [] e0 = e0 [(⟨[97], 1⟩, true)] [] [rdD] [] [] [] := by
 obtain ⟨m, h, rfl⟩ := fuel_is ‹Fuel›
 kernel_rfl
theorem rd_state25 (R : Type) (e0 : List (G_net_own × Bool) → List G_Deed → List G_Contact → List (List UInt8) → List Int → Option R) :
  z22z_L25 I_z22z I_z22z.N (([] : List G_Contact).length : Int) 0 [(⟨[97], 1⟩, true)] [] [rdD] [] [] [] e0 = e0 [(⟨[97], 1⟩, true)] [rdD] [] [] [] := by
 obtain ⟨m, h, rfl⟩ := fuel_is ‹Fuel›
 kernel_rfl
theorem rd_state (R : Type) (k0 : Int → Option R) (k1 : List G_Deed → List G_Contact → List (List UInt8) → List Int → List (G_net_own × Bool) → Int → Option R) : z22z [rdD] 0 k0 k1 = k1 [rdD] [] [] [] [(⟨[97], 1⟩, true)] 0 := by
 have h1 : ∀ k : List Int → Option R, I_z22z.z14z [rdD] 0 k = k [0] := fun k => rd_counting R k
 have h2 : ∀ k : List G_Contact → Option R, I_z22z.z28z [] k = k [] := fun k => sortQ_nil R k
 simp only [z22z, z22z_, h1, rd_state4, h2, rd_state25]
 rfl
theorem rd_sent (R : Type) (k : List (Int × Int) → List G_Deed → List G_Contact → List (List UInt8) → List Int → List (G_net_own × Bool) → Option R) : z25z [rdD] [] [] [] [(⟨[97], 1⟩, true)] k = k [] [rdD] [] [] [] [(⟨[97], 1⟩, true)] := by
 obtain ⟨m, h, rfl⟩ := fuel_is ‹Fuel›
 kernel_rfl
theorem rd_holders (R : Type) (k : List (Int × Int) → List G_Deed → List G_Contact → List (List UInt8) → List Int → List (G_net_own × Bool) → Option R) : z8z [rdD] [] [] [] [(⟨[97], 1⟩, true)] k = k [(1, 1)] [rdD] [] [] [] [(⟨[97], 1⟩, true)] := by
 have h : raw_z8z NN [rdD] [] [] [] [(⟨[97], 1⟩, true)] (fun z0 z1 z2 z3 z4 z5 => some (inj0_z8z (z0, z1, z2, z3, z4, z5))) = some (inj0_z8z ([(1, 1)], [rdD], [], [], [], [(⟨[97], 1⟩, true)])) := by
  obtain ⟨m, e, hm⟩ := NN_succ
  obtain ⟨m, rfl⟩ : ∃ q, m = q + 1 := ⟨m - 1, by omega⟩
  unfold raw_z8z
  rw [e, z8z_L3]
  refine pickAll_same (by simp) fun p hp => ?_
  simp only [picks, List.map_nil, List.mem_cons, List.not_mem_nil, or_false] at hp
  subst hp
  rw [z8z_L3, pickAll_nil]
  kernel_rfl
 unfold z8z z8z_
 rw [h]
 rfl
theorem rd_next3 (R : Type) (e0 : Int → Int → List (G_net_own × Bool) → List G_Deed → List G_Contact → List (List UInt8) → List Int → Option R) (e1 : List (G_net_own × Bool) → List G_Deed → List G_Contact → List (List UInt8) → List Int → Option R) :
  z17z_L3 I_z17z I_z17z.N 1 [] [(⟨[97], 1⟩, true)] [(1, 1)] [rdD] [] [] [] e0 e1 = e0 2 0 [(⟨[97], 1⟩, true)] [rdD] [] [] [] := by
 obtain ⟨m, h, rfl⟩ := fuel_is ‹Fuel›
 kernel_rfl
theorem rd_next (R : Type) (k : Int → Int → Option R) : net_Next [rdD] 0 k = k 2 0 := by
 have h1 : ∀ (k0 : Int → Option R) (k1 : List G_Deed → List G_Contact → List (List UInt8) → List Int → List (G_net_own × Bool) → Int → Option R), I_net_Next.z61z [rdD] 0 k0 k1 = k1 [rdD] [] [] [] [(⟨[97], 1⟩, true)] 0 := fun k0 k1 => by
  have h2 : ∀ k : Int → Option R, I_z61z.z49z [rdD] 0 k = k 0 := fun k => rd_asked R k
  have h3 : ∀ (k0 : Int → Option R) (k1 : List G_Deed → List G_Contact → List (List UInt8) → List Int → List (G_net_own × Bool) → Int → Option R), I_z61z.z22z [rdD] 0 k0 k1 = k1 [rdD] [] [] [] [(⟨[97], 1⟩, true)] 0 := fun k0 k1 => rd_state R k0 k1
  show z61z [rdD] 0 k0 k1 = _
  simp only [z61z, z61z_, h2, h3]
  rfl
 have h4 : ∀ k : List (Int × Int) → List G_Deed → List G_Contact → List (List UInt8) → List Int → List (G_net_own × Bool) → Option R, I_z17z.z25z [rdD] [] [] [] [(⟨[97], 1⟩, true)] k = k [] [rdD] [] [] [] [(⟨[97], 1⟩, true)] := fun k => rd_sent R k
 have h5 : ∀ k : List (Int × Int) → List G_Deed → List G_Contact → List (List UInt8) → List Int → List (G_net_own × Bool) → Option R, I_z17z.z8z [rdD] [] [] [] [(⟨[97], 1⟩, true)] k = k [(1, 1)] [rdD] [] [] [] [(⟨[97], 1⟩, true)] := fun k => rd_holders R k
 have h6 : ∀ k : Int → Int → List G_Deed → List G_Contact → List (List UInt8) → List Int → List (G_net_own × Bool) → Option R, I_net_Next.z17z [rdD] [] [] [] [(⟨[97], 1⟩, true)] k = k 2 0 [rdD] [] [] [] [(⟨[97], 1⟩, true)] := fun k => by
  show z17z [rdD] [] [] [] [(⟨[97], 1⟩, true)] k = _
  simp only [z17z, z17z_, h4, h5, rd_next3]
 simp only [net_Next, net_Next_, h1, h6]
 rfl
end Go.Am
set_option linter.unusedVariables false
set_option linter.unusedSectionVars false
set_option linter.unusedSimpArgs false
set_option maxRecDepth 100000
namespace Go.Am
open Go Go.Proofs
variable [Fuel]
end Go.Am
