/- The plain law, in Lean alone: R4, R5, R6, R7, Y0, Y1. No condition: lemmas for the claim. -/
import Derived.Test.YtnlblmnoiepeaaaGreatDoorPlR1
import Derived.Test.YtnlblmnoiepeaaaGreatDoorPlD1
set_option linter.unusedVariables false
set_option linter.unusedSectionVars false
set_option linter.unusedSimpArgs false
set_option maxRecDepth 100000
namespace Go.Am
open Go Go.Proofs
variable [Fuel]
end Go.Am
set_option linter.unusedVariables false
set_option linter.unusedSectionVars false
set_option linter.unusedSimpArgs false
set_option maxRecDepth 100000
namespace Go.Am
open Go Go.Proofs
variable [Fuel]
end Go.Am
set_option linter.unusedVariables false
set_option linter.unusedSectionVars false
set_option linter.unusedSimpArgs false
set_option maxRecDepth 100000
namespace Go.Am
open Go Go.Proofs
variable [Fuel]
end Go.Am
set_option linter.unusedVariables false
set_option linter.unusedSectionVars false
set_option linter.unusedSimpArgs false
set_option maxRecDepth 100000
namespace Go.Am
open Go Go.Proofs
variable [Fuel]
end Go.Am
set_option linter.unusedVariables false
set_option linter.unusedSectionVars false
set_option linter.unusedSimpArgs false
set_option maxRecDepth 100000
namespace Go.Am
open Go Go.Proofs
variable [Fuel]
end Go.Am
set_option linter.unusedVariables false
set_option linter.unusedSectionVars false
set_option linter.unusedSimpArgs false
set_option maxRecDepth 100000
namespace Go.Am
open Go Go.Proofs
variable [Fuel]
def rdC1 : G_Contact := ⟨0, 1, [98], [107, 49, 97, 98], 0, 0, [], []⟩
def rdC2 : G_Contact := ⟨5, 1, [98], [107, 49, 97, 98], 0, 0, [], []⟩
theorem rd_dupes (R : Type) (k : List Int → Int → Option R) : log_Dupes [rdC1, rdC2] k = k [1] 0 := by
 obtain ⟨m, h, rfl⟩ := fuel_is ‹Fuel›
 kernel_rfl
def rdE : G_Entrant := ⟨[107, 49, 97, 98], [99], 5, []⟩
def rdP : G_Place := ⟨0, 5, [107, 49, 97, 98]⟩
theorem sortQ_one {α : Type} {call : CmpT α} {p : α} (h : ∀ (R : Type) (k : Int → Option R), call p p k = k 0) (R : Type) (k : List α → Option R) : X_sortf call [p] k = k [p] := by
 obtain ⟨ys, h1, _, h3⟩ := X_sortf_is (call := call) (xs := [p]) (c := fun _ _ => 0) (by simp) (fun x hx y hy R k => by simp at hx hy; subst hx; subst hy; exact h R k) ⟨fun _ _ _ _ => .inl (Int.le_refl _), fun _ _ _ _ _ _ _ _ => Int.le_refl _, fun _ _ _ _ => by simp⟩
 rw [h3, List.perm_singleton.1 h1]
theorem sortQ_nil {α : Type} {call : CmpT α} (R : Type) (k : List α → Option R) : X_sortf call [] k = k [] := by
 obtain ⟨ys, h1, _, h3⟩ := X_sortf_is (call := call) (xs := []) (c := fun _ _ => 0) (by simp) (fun x hx y hy R k => by cases hx) ⟨fun _ _ _ _ => .inl (Int.le_refl _), fun _ _ _ _ _ _ _ _ => Int.le_refl _, fun _ _ _ _ => by simp⟩
 rw [h3, List.perm_nil.1 h1]
theorem rd_sort (R : Type) (k : List G_Place → Option R) : z43z [rdP] k = k [rdP] := sortQ_one (call := @z50z _) (fun R k => by
 obtain ⟨m, h, rfl⟩ := fuel_is ‹Fuel›
 kernel_rfl) R k
theorem rd_check (R : Type) (k : Int → Option R) : z38z [rdE] k = k 0 := by
 obtain ⟨m, h, rfl⟩ := fuel_is ‹Fuel›
 kernel_rfl
theorem rd_key (R : Type) (k : Bool → Option R) : kit_IsKey [99] k = k true := by
 obtain ⟨m, h, rfl⟩ := fuel_is ‹Fuel›
 kernel_rfl
theorem rd_places (R : Type) (k : List G_Place → Option R) : club_Table_L8 I_club_Table I_club_Table.N [99] [rdE] ([rdE].length : Int) 0 [] k = k [rdP] := by
 obtain ⟨m, h, rfl⟩ := fuel_is ‹Fuel›
 kernel_rfl
theorem rd_ranks (R : Type) (k : List G_Place → Option R) : z24z_L3 I_z24z I_z24z.N ([rdP].length : Int) 0 [rdP] k = k [⟨1, 5, [107, 49, 97, 98]⟩] := by
 obtain ⟨m, h, rfl⟩ := fuel_is ‹Fuel›
 kernel_rfl
theorem rd_table (R : Type) (k : List G_Place → Int → Option R) : club_Table [rdE] [99] k = k [⟨1, 5, [107, 49, 97, 98]⟩] 0 := by
 have h1 : ∀ k : Int → Option R, I_club_Table.z38z [rdE] k = k 0 := fun k => rd_check R k
 have h2 : ∀ k : Bool → Option R, I_club_Table.kit_IsKey [99] k = k true := fun k => rd_key R k
 have h3 : ∀ k : List G_Place → Option R, I_club_Table.z24z [rdP] k = k [⟨1, 5, [107, 49, 97, 98]⟩] := fun k => by
  have h4 : ∀ k : List G_Place → Option R, I_z24z.z43z [rdP] k = k [rdP] := fun k => rd_sort R k
  show z24z [rdP] k = _
  simp only [z24z, z24z_, h4, rd_ranks]
 simp only [club_Table, club_Table_, h1, h2, rd_places, h3]
 rfl
def rdD : G_Deed := ⟨[97], 1, 0, 3, ⟨0, 0, [], [], 1, 0, [], []⟩, [], [], 0⟩
theorem rd_asked (R : Type) (k : Int → Option R) : z85z [rdD] 0 k = k 0 := by
 obtain ⟨m, h, rfl⟩ := fuel_is ‹Fuel›
 kernel_rfl
theorem rd_raw : raw_z26z I_z26z [rdD] 0 (fun z0 => some (inj0_z26z z0)) = some (inj0_z26z [0]) := by
 obtain ⟨m, h, rfl⟩ := fuel_is ‹Fuel›
 kernel_rfl
theorem rd_counting (R : Type) (k : List Int → Option R) : z26z [rdD] 0 k = k [0] := by
 unfold z26z z26z_
 rw [rd_raw]
 rfl
theorem rd_state4 (R : Type) (e0 : List (G_net_own × Bool) → List (G_Contact × G_Deed) → List G_Deed → List G_Contact → List (List UInt8) → List Int → Option R) :
  z37z_L4 I_z37z I_z37z.N [rdD] (([0] : List Int).length : Int) 0 [] [] [0] [] [] [] [] e0 = e0 [(⟨[97], 1⟩, true)] [] [rdD] [] [] [] := by
 obtain ⟨m, h, rfl⟩ := fuel_is ‹Fuel›
 kernel_rfl
theorem rd_state25 (R : Type) (e0 : List (G_net_own × Bool) → List G_Deed → List G_Contact → List (List UInt8) → List Int → Option R) :
  z37z_L25 I_z37z I_z37z.N (([] : List G_Contact).length : Int) 0 [(⟨[97], 1⟩, true)] [] [rdD] [] [] [] e0 = e0 [(⟨[97], 1⟩, true)] [rdD] [] [] [] := by
 obtain ⟨m, h, rfl⟩ := fuel_is ‹Fuel›
 kernel_rfl
theorem rd_state (R : Type) (k0 : Int → Option R) (k1 : List G_Deed → List G_Contact → List (List UInt8) → List Int → List (G_net_own × Bool) → Int → Option R) : z37z [rdD] 0 k0 k1 = k1 [rdD] [] [] [] [(⟨[97], 1⟩, true)] 0 := by
 have h1 : ∀ k : List Int → Option R, I_z37z.z26z [rdD] 0 k = k [0] := fun k => rd_counting R k
 have h2 : ∀ k : List G_Contact → Option R, I_z37z.z45z [] k = k [] := fun k => sortQ_nil R k
 simp only [z37z, z37z_, h1, rd_state4, h2, rd_state25]
 rfl
theorem rd_sent (R : Type) (k : List (Int × Int) → List G_Deed → List G_Contact → List (List UInt8) → List Int → List (G_net_own × Bool) → Option R) : z40z [rdD] [] [] [] [(⟨[97], 1⟩, true)] k = k [] [rdD] [] [] [] [(⟨[97], 1⟩, true)] := by
 obtain ⟨m, h, rfl⟩ := fuel_is ‹Fuel›
 kernel_rfl
theorem rd_holders (R : Type) (k : List (Int × Int) → List G_Deed → List G_Contact → List (List UInt8) → List Int → List (G_net_own × Bool) → Option R) : z17z [rdD] [] [] [] [(⟨[97], 1⟩, true)] k = k [(1, 1)] [rdD] [] [] [] [(⟨[97], 1⟩, true)] := by
 have h : raw_z17z NN [rdD] [] [] [] [(⟨[97], 1⟩, true)] (fun z0 z1 z2 z3 z4 z5 => some (inj0_z17z (z0, z1, z2, z3, z4, z5))) = some (inj0_z17z ([(1, 1)], [rdD], [], [], [], [(⟨[97], 1⟩, true)])) := by
  obtain ⟨m, e, hm⟩ := NN_succ
  obtain ⟨m, rfl⟩ : ∃ q, m = q + 1 := ⟨m - 1, by omega⟩
  unfold raw_z17z
  rw [e, z17z_L3]
  refine pickAll_same (by simp) fun p hp => ?_
  simp only [picks, List.map_nil, List.mem_cons, List.not_mem_nil, or_false] at hp
  subst hp
  rw [z17z_L3, pickAll_nil]
  kernel_rfl
 unfold z17z z17z_
 rw [h]
 rfl
theorem rd_next3 (R : Type) (e0 : Int → Int → List (G_net_own × Bool) → List G_Deed → List G_Contact → List (List UInt8) → List Int → Option R) (e1 : List (G_net_own × Bool) → List G_Deed → List G_Contact → List (List UInt8) → List Int → Option R) :
  z22z_L3 I_z22z I_z22z.N 1 [] [(⟨[97], 1⟩, true)] [(1, 1)] [rdD] [] [] [] e0 e1 = e0 2 0 [(⟨[97], 1⟩, true)] [rdD] [] [] [] := by
 obtain ⟨m, h, rfl⟩ := fuel_is ‹Fuel›
 kernel_rfl
theorem rd_next (R : Type) (k : Int → Int → Option R) : net_Next [rdD] 0 k = k 2 0 := by
 have h1 : ∀ (k0 : Int → Option R) (k1 : List G_Deed → List G_Contact → List (List UInt8) → List Int → List (G_net_own × Bool) → Int → Option R), I_net_Next.z81z [rdD] 0 k0 k1 = k1 [rdD] [] [] [] [(⟨[97], 1⟩, true)] 0 := fun k0 k1 => by
  have h2 : ∀ k : Int → Option R, I_z81z.z85z [rdD] 0 k = k 0 := fun k => rd_asked R k
  have h3 : ∀ (k0 : Int → Option R) (k1 : List G_Deed → List G_Contact → List (List UInt8) → List Int → List (G_net_own × Bool) → Int → Option R), I_z81z.z37z [rdD] 0 k0 k1 = k1 [rdD] [] [] [] [(⟨[97], 1⟩, true)] 0 := fun k0 k1 => rd_state R k0 k1
  show z81z [rdD] 0 k0 k1 = _
  simp only [z81z, z81z_, h2, h3]
  rfl
 have h4 : ∀ k : List (Int × Int) → List G_Deed → List G_Contact → List (List UInt8) → List Int → List (G_net_own × Bool) → Option R, I_z22z.z40z [rdD] [] [] [] [(⟨[97], 1⟩, true)] k = k [] [rdD] [] [] [] [(⟨[97], 1⟩, true)] := fun k => rd_sent R k
 have h5 : ∀ k : List (Int × Int) → List G_Deed → List G_Contact → List (List UInt8) → List Int → List (G_net_own × Bool) → Option R, I_z22z.z17z [rdD] [] [] [] [(⟨[97], 1⟩, true)] k = k [(1, 1)] [rdD] [] [] [] [(⟨[97], 1⟩, true)] := fun k => rd_holders R k
 have h6 : ∀ k : Int → Int → List G_Deed → List G_Contact → List (List UInt8) → List Int → List (G_net_own × Bool) → Option R, I_net_Next.z22z [rdD] [] [] [] [(⟨[97], 1⟩, true)] k = k 2 0 [rdD] [] [] [] [(⟨[97], 1⟩, true)] := fun k => by
  show z22z [rdD] [] [] [] [(⟨[97], 1⟩, true)] k = _
  simp only [z22z, z22z_, h4, h5, rd_next3]
 simp only [net_Next, net_Next_, h1, h6]
 rfl
end Go.Am
