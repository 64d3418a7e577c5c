/- The plain law, in Lean alone: K. No condition: lemmas for the claim. -/
import Derived.Test.YtonhhbcacemaiaaGreatDoorF1
import Derived.Test.YtonhhbcacemaiaaGreatDoorF2
import Derived.Test.YtonhhbcacemaiaaGreatDoorF3
import Derived.Test.YtonhhbcacemaiaaGreatDoorF4
import Derived.Test.YtonhhbcacemaiaaGreatDoorF5
import Derived.Test.YtonhhbcacemaiaaGreatDoorF6
import Derived.Test.YtonhhbcacemaiaaGreatDoorF7
import Derived.Test.YtonhhbcacemaiaaGreatDoorF8
import Derived.Test.YtonhhbcacemaiaaGreatDoorF9
import Derived.Test.YtonhhbcacemaiaaGreatDoorPlB4
namespace Go.Am
open Go Go.Proofs
theorem lk_slices_insertionSortCmpFunc__Card_Q_CardOrder (g : C_slices_insertionSortCmpFunc__Card_Q_CardOrder) : @slices_insertionSortCmpFunc__Card_Q_CardOrder_ g = @sIns G_Card g.N g.Q_CardOrder := by kernel_rfl
theorem li_slices_insertionSortCmpFunc__Card_Q_CardOrder [Fuel] : @slices_insertionSortCmpFunc__Card_Q_CardOrder _ = @sIns G_Card NN (@Q_CardOrder _) := lk_slices_insertionSortCmpFunc__Card_Q_CardOrder I_slices_insertionSortCmpFunc__Card_Q_CardOrder
theorem lk_slices_stableCmpFunc__Card_Q_CardOrder (g : C_slices_stableCmpFunc__Card_Q_CardOrder) : @slices_stableCmpFunc__Card_Q_CardOrder_ g = @sSta G_Card g.N g.slices_insertionSortCmpFunc__Card_Q_CardOrder := by kernel_rfl
theorem li_slices_stableCmpFunc__Card_Q_CardOrder [Fuel] : @slices_stableCmpFunc__Card_Q_CardOrder _ = @sSta G_Card NN (@slices_insertionSortCmpFunc__Card_Q_CardOrder _) := lk_slices_stableCmpFunc__Card_Q_CardOrder I_slices_stableCmpFunc__Card_Q_CardOrder
theorem lk_slices_Compact__Card (g : Nat) : @slices_Compact__Card_ g = @sComp G_Card g (⟨0, 0, 0, [], []⟩ : G_Card) (fun x y {_} k => k (eq_G_Card x y)) := by kernel_rfl
theorem li_slices_Compact__Card [Fuel] : @slices_Compact__Card _ = @sComp G_Card NN (⟨0, 0, 0, [], []⟩ : G_Card) (fun x y {_} k => k (eq_G_Card x y)) := lk_slices_Compact__Card NN
theorem lk_slices_Index__int (g : Nat) : @slices_Index__int_ g = @sIndexV Int Int g (fun x y => x == y) := by kernel_rfl
theorem li_slices_Index__int [Fuel] : @slices_Index__int _ = @sIndexV Int Int NN (fun x y => x == y) := lk_slices_Index__int NN
theorem lk_slices_IndexFunc__Row_band_May_1 (g : C_slices_IndexFunc__Row_band_May_1) : @slices_IndexFunc__Row_band_May_1_ g = @sIndexF G_Row G_Row g.N g.band_May_1 := by kernel_rfl
theorem li_slices_IndexFunc__Row_band_May_1 [Fuel] : @slices_IndexFunc__Row_band_May_1 _ = @sIndexF G_Row G_Row NN (@band_May_1 _) := lk_slices_IndexFunc__Row_band_May_1 I_slices_IndexFunc__Row_band_May_1
theorem lm_get_club_contact_bool : @mget_club_contact_bool = @aget G_club_contact Bool keq_club_contact := by kernel_rfl
theorem lm_set_club_contact_bool : @mset_club_contact_bool = @aset G_club_contact Bool keq_club_contact := by kernel_rfl
theorem keq_club_contact_is (x y : G_club_contact) : keq_club_contact x y = true ↔ x = y := by cases x; cases y; simp [keq_club_contact]
end Go.Am
