/- The plain law, in Lean alone: K. No condition: lemmas for the claim. -/
import Derived.Test.YtnkoiigdcbjenaaGreatDoorF1
import Derived.Test.YtnkoiigdcbjenaaGreatDoorF2
import Derived.Test.YtnkoiigdcbjenaaGreatDoorF3
import Derived.Test.YtnkoiigdcbjenaaGreatDoorF4
import Derived.Test.YtnkoiigdcbjenaaGreatDoorF5
import Derived.Test.YtnkoiigdcbjenaaGreatDoorF6
import Derived.Test.YtnkoiigdcbjenaaGreatDoorF7
import Derived.Test.YtnkoiigdcbjenaaGreatDoorPlB4
namespace Go.Am
open Go Go.Proofs
theorem lk_slices_insertionSortCmpFunc__Card_Q_CardOrder (g : C_slices_insertionSortCmpFunc__Card_Q_CardOrder) : @slices_insertionSortCmpFunc__Card_Q_CardOrder_ g = @sIns G_Card g.N g.Q_CardOrder := by kernel_rfl
theorem li_slices_insertionSortCmpFunc__Card_Q_CardOrder [Fuel] : @slices_insertionSortCmpFunc__Card_Q_CardOrder _ = @sIns G_Card NN (@Q_CardOrder _) := lk_slices_insertionSortCmpFunc__Card_Q_CardOrder I_slices_insertionSortCmpFunc__Card_Q_CardOrder
theorem lk_slices_stableCmpFunc__Card_Q_CardOrder (g : C_slices_stableCmpFunc__Card_Q_CardOrder) : @slices_stableCmpFunc__Card_Q_CardOrder_ g = @sSta G_Card g.N g.slices_insertionSortCmpFunc__Card_Q_CardOrder := by kernel_rfl
theorem li_slices_stableCmpFunc__Card_Q_CardOrder [Fuel] : @slices_stableCmpFunc__Card_Q_CardOrder _ = @sSta G_Card NN (@slices_insertionSortCmpFunc__Card_Q_CardOrder _) := lk_slices_stableCmpFunc__Card_Q_CardOrder I_slices_stableCmpFunc__Card_Q_CardOrder
theorem lk_slices_Compact__Card (g : Nat) : @slices_Compact__Card_ g = @sComp G_Card g (⟨0, 0, 0, [], []⟩ : G_Card) (fun x y {_} k => k (eq_G_Card x y)) := by kernel_rfl
theorem li_slices_Compact__Card [Fuel] : @slices_Compact__Card _ = @sComp G_Card NN (⟨0, 0, 0, [], []⟩ : G_Card) (fun x y {_} k => k (eq_G_Card x y)) := lk_slices_Compact__Card NN
theorem lk_slices_IndexFunc__Card_Q_ConfirmedBy_1 (g : C_slices_IndexFunc__Card_Q_ConfirmedBy_1) : @slices_IndexFunc__Card_Q_ConfirmedBy_1_ g = @sIndexF G_Card G_Card g.N g.Q_ConfirmedBy_1 := by kernel_rfl
theorem li_slices_IndexFunc__Card_Q_ConfirmedBy_1 [Fuel] : @slices_IndexFunc__Card_Q_ConfirmedBy_1 _ = @sIndexF G_Card G_Card NN (@Q_ConfirmedBy_1 _) := lk_slices_IndexFunc__Card_Q_ConfirmedBy_1 I_slices_IndexFunc__Card_Q_ConfirmedBy_1
theorem lk_slices_Equal__Pair (g : Nat) : @slices_Equal__Pair_ g = @sEqual G_Pair g (fun x y => !(eq_G_Pair x y)) := by kernel_rfl
theorem li_slices_Equal__Pair [Fuel] : @slices_Equal__Pair _ = @sEqual G_Pair NN (fun x y => !(eq_G_Pair x y)) := lk_slices_Equal__Pair NN
theorem lm_set_Card_bool : @mset_Card_bool = @aset G_Card Bool keq_Card := by kernel_rfl
theorem lm_get_club_contact_bool : @mget_club_contact_bool = @aget G_club_contact Bool keq_club_contact := by kernel_rfl
theorem lm_set_club_contact_bool : @mset_club_contact_bool = @aset G_club_contact Bool keq_club_contact := by kernel_rfl
theorem keq_Card_is (x y : G_Card) : keq_Card x y = true ↔ x = y := by cases x; cases y; simp [keq_Card]
theorem keq_club_contact_is (x y : G_club_contact) : keq_club_contact x y = true ↔ x = y := by cases x; cases y; simp [keq_club_contact]
theorem eq_G_Pair_is (x y : G_Pair) : eq_G_Pair x y = true ↔ x = y := by cases x; cases y; simp [eq_G_Pair]
end Go.Am
