/- The plain law, in Lean alone: K. No condition: lemmas for the claim. -/
import Derived.Test.YtoajjnhmofegcaaGreatDoorF1
import Derived.Test.YtoajjnhmofegcaaGreatDoorF2
import Derived.Test.YtoajjnhmofegcaaGreatDoorF3
import Derived.Test.YtoajjnhmofegcaaGreatDoorF4
import Derived.Test.YtoajjnhmofegcaaGreatDoorF5
import Derived.Test.YtoajjnhmofegcaaGreatDoorF6
import Derived.Test.YtoajjnhmofegcaaGreatDoorF7
import Derived.Test.YtoajjnhmofegcaaGreatDoorPlB1
namespace Go.Am
open Go Go.Proofs
theorem lk_slices_insertionSortCmpFunc__Card_Q_CardOrder (g : C_slices_insertionSortCmpFunc__Card_Q_CardOrder) : @slices_insertionSortCmpFunc__Card_Q_CardOrder_ g = @sIns G_Card g.N g.Q_CardOrder := by kernel_rfl
theorem li_slices_insertionSortCmpFunc__Card_Q_CardOrder [Fuel] : @slices_insertionSortCmpFunc__Card_Q_CardOrder _ = @sIns G_Card NN (@Q_CardOrder _) := lk_slices_insertionSortCmpFunc__Card_Q_CardOrder I_slices_insertionSortCmpFunc__Card_Q_CardOrder
theorem lk_slices_stableCmpFunc__Card_Q_CardOrder (g : C_slices_stableCmpFunc__Card_Q_CardOrder) : @slices_stableCmpFunc__Card_Q_CardOrder_ g = @sSta G_Card g.N g.slices_insertionSortCmpFunc__Card_Q_CardOrder := by kernel_rfl
theorem li_slices_stableCmpFunc__Card_Q_CardOrder [Fuel] : @slices_stableCmpFunc__Card_Q_CardOrder _ = @sSta G_Card NN (@slices_insertionSortCmpFunc__Card_Q_CardOrder _) := lk_slices_stableCmpFunc__Card_Q_CardOrder I_slices_stableCmpFunc__Card_Q_CardOrder
theorem lk_slices_Compact__Card (g : Nat) : @slices_Compact__Card_ g = @sComp G_Card g (⟨0, 0, 0, [], []⟩ : G_Card) (fun x y {_} k => k (eq_G_Card x y)) := by kernel_rfl
theorem li_slices_Compact__Card [Fuel] : @slices_Compact__Card _ = @sComp G_Card NN (⟨0, 0, 0, [], []⟩ : G_Card) (fun x y {_} k => k (eq_G_Card x y)) := lk_slices_Compact__Card NN
theorem lk_slices_Equal__Card (g : Nat) : @slices_Equal__Card_ g = @sEqual G_Card g (fun x y => !(eq_G_Card x y)) := by kernel_rfl
theorem li_slices_Equal__Card [Fuel] : @slices_Equal__Card _ = @sEqual G_Card NN (fun x y => !(eq_G_Card x y)) := lk_slices_Equal__Card NN
theorem eq_G_Card_is (x y : G_Card) : eq_G_Card x y = true ↔ x = y := by cases x; cases y; simp [eq_G_Card]
end Go.Am
