/- The plain law, in Lean alone: C2. No condition: lemmas for the claim. -/
import Derived.Test.YtfifleplhegkdaaGreatDoorPlS1
import Derived.Test.YtfifleplhegkdaaGreatDoorPlK
set_option linter.unusedVariables false
set_option linter.unusedSectionVars false
set_option linter.unusedSimpArgs false
set_option maxRecDepth 100000
namespace Go.Am
open Go Go.Proofs
variable [Fuel]
theorem sortC_ord {l : List G_Contact} (hf : ∀ c ∈ l, Fine c) (hl : l.length ≤ 20) (R : Type) (k : List G_Contact → Option R) : slices_SortStableFunc__Contact_Q_ContactOrder l k = k (sortI cmpC l) := by
 simp only [slices_SortStableFunc__Contact_Q_ContactOrder, slices_SortStableFunc__Contact_Q_ContactOrder_, I_slices_SortStableFunc__Contact_Q_ContactOrder, li_slices_stableCmpFunc__Contact_Q_ContactOrder]
 exact sSta_is cmpC Fine (fun x y hx hy => Q_ContactOrder_is hx hy) l hf hl (by have := NN_ok; omega) (by have := NN_ok; omega) _ (fun l a b R k => by rw [li_slices_insertionSortCmpFunc__Contact_Q_ContactOrder]) k
theorem Stream_Contacts_1_is {x y : G_Contact} (hx : Fine x) (hy : Fine y) (R : Type) (k : Bool → Option R) : Stream_Contacts_1 x y k = k (cmpC x y == 0) := by
 simp only [Stream_Contacts_1, Stream_Contacts_1_, I_Stream_Contacts_1, Q_ContactOrder_is hx hy]
theorem compfC_is {l : List G_Contact} (hf : ∀ c ∈ l, Fine c) (hl : l.length ≤ 100000) (R : Type) (k : List G_Contact → Option R) : slices_CompactFunc__Contact_Stream_Contacts_1 l k = k (compactP (fun x y => cmpC x y == 0) l) := by
 rw [li_slices_CompactFunc__Contact_Stream_Contacts_1]
 exact sComp_is _ Fine (fun x y hx hy R k => Stream_Contacts_1_is hx hy R k) l (by have := NN_ok; omega) (by have := NN_ok; omega) hf k
theorem equalC_is {l : List G_Contact} (hl : l.length ≤ 1000000) (R : Type) (k : Bool → Option R) : slices_Equal__Contact l l k = k true := by
 rw [li_slices_Equal__Contact]; exact sEqual_same (by have := NN_ok; omega) (by have := NN_ok; omega) (fun x => by rw [(eq_G_Contact_is x x).2 rfl]; rfl) k
end Go.Am
