/- The plain law, in Lean alone: K. No condition: lemmas for the claim. -/
import Derived.Test.YtnkoiigdcbjenaaGreatDoorF1
import Derived.Test.YtnkoiigdcbjenaaGreatDoorF2
import Derived.Test.YtnkoiigdcbjenaaGreatDoorF3
import Derived.Test.YtnkoiigdcbjenaaGreatDoorF4
import Derived.Test.YtnkoiigdcbjenaaGreatDoorF5
import Derived.Test.YtnkoiigdcbjenaaGreatDoorF6
import Derived.Test.YtnkoiigdcbjenaaGreatDoorF7
import Derived.Test.YtnkoiigdcbjenaaGreatDoorPlB4
namespace Go.Am
open Go Go.Proofs
theorem lk_slices_IndexFunc__string_club_isInside_1 (g : C_slices_IndexFunc__string_club_isInside_1) : @slices_IndexFunc__string_club_isInside_1_ g = @sIndexF (List UInt8) G_Member g.N g.club_isInside_1 := by kernel_rfl
theorem li_slices_IndexFunc__string_club_isInside_1 [Fuel] : @slices_IndexFunc__string_club_isInside_1 _ = @sIndexF (List UInt8) G_Member NN (@club_isInside_1 _) := lk_slices_IndexFunc__string_club_isInside_1 I_slices_IndexFunc__string_club_isInside_1
theorem lk_slices_IndexFunc__Club_Q_MembersFault_1 (g : C_slices_IndexFunc__Club_Q_MembersFault_1) : @slices_IndexFunc__Club_Q_MembersFault_1_ g = @sIndexF G_Club G_Member g.N g.Q_MembersFault_1 := by kernel_rfl
theorem li_slices_IndexFunc__Club_Q_MembersFault_1 [Fuel] : @slices_IndexFunc__Club_Q_MembersFault_1 _ = @sIndexF G_Club G_Member NN (@Q_MembersFault_1 _) := lk_slices_IndexFunc__Club_Q_MembersFault_1 I_slices_IndexFunc__Club_Q_MembersFault_1
theorem lk_slices_IndexFunc__string_Q_inside_1 (g : C_slices_IndexFunc__string_Q_inside_1) : @slices_IndexFunc__string_Q_inside_1_ g = @sIndexF (List UInt8) G_Member g.N g.Q_inside_1 := by kernel_rfl
theorem li_slices_IndexFunc__string_Q_inside_1 [Fuel] : @slices_IndexFunc__string_Q_inside_1 _ = @sIndexF (List UInt8) G_Member NN (@Q_inside_1 _) := lk_slices_IndexFunc__string_Q_inside_1 I_slices_IndexFunc__string_Q_inside_1
theorem lk_slices_Index__string (g : Nat) : @slices_Index__string_ g = @sIndexV (List UInt8) (List UInt8) g (fun x y => x == y) := by kernel_rfl
theorem li_slices_Index__string [Fuel] : @slices_Index__string _ = @sIndexV (List UInt8) (List UInt8) NN (fun x y => x == y) := lk_slices_Index__string NN
theorem lk_slices_Equal__string (g : Nat) : @slices_Equal__string_ g = @sEqual (List UInt8) g (fun x y => !(x == y)) := by kernel_rfl
theorem li_slices_Equal__string [Fuel] : @slices_Equal__string _ = @sEqual (List UInt8) NN (fun x y => !(x == y)) := lk_slices_Equal__string NN
theorem lk_slices_Equal__string_n1 (g : Nat) : @slices_Equal__string_n1_ g = @sEqualN (List UInt8) g := by kernel_rfl
theorem li_slices_Equal__string_n1 [Fuel] : @slices_Equal__string_n1 _ = @sEqualN (List UInt8) NN := lk_slices_Equal__string_n1 NN
theorem lm_get_string_Member : @mget_string_Member = @aget (List UInt8) G_Member keq_string := by kernel_rfl
theorem lm_set_string_Member : @mset_string_Member = @aset (List UInt8) G_Member keq_string := by kernel_rfl
theorem keq_string_is (x y : List UInt8) : keq_string x y = true ↔ x = y := by simp [keq_string]
end Go.Am
