/- The plain law, in Lean alone: C2. No condition: lemmas for the claim. -/
import Derived.Test.YtjnhihfahcoekaaGreatDoorPlS1
import Derived.Test.YtjnhihfahcoekaaGreatDoorPlK
set_option linter.unusedVariables false
set_option linter.unusedSectionVars false
set_option linter.unusedSimpArgs false
set_option maxRecDepth 100000
namespace Go.Am
open Go Go.Proofs
variable [Fuel]
theorem sortC_ord {l : List G_Contact} (hf : ∀ c ∈ l, Fine c) (hl : l.length ≤ 20) (R : Type) (k : List G_Contact → Option R) : z22z l k = k (sortI cmpC l) := by
 simp only [z22z, z22z_, I_z22z, li_z0z]
 exact sSta_is cmpC Fine (fun x y hx hy => z5z_is hx hy) l hf hl (by have := NN_ok; omega) (by have := NN_ok; omega) _ (fun l a b R k => by rw [li_z1z]) k
theorem sortC_cmp {l : List G_Contact} (hl : l.length ≤ 20) (R : Type) (k : List G_Contact → Option R) : z25z l k = k (sortI cmpC l) := by
 simp only [z25z, z25z_, I_z25z, li_z2z]
 exact sSta_is cmpC (fun _ => True) (fun x y _ _ => z6z_is x y) l (fun _ _ => trivial) hl (by have := NN_ok; omega) (by have := NN_ok; omega) _ (fun l a b R k => by rw [li_z3z]) k
theorem compC_is {l : List G_Contact} (hl : l.length ≤ 100000) (R : Type) (k : List G_Contact → Option R) : z16z l k = k (compactP eq_G_Contact l) := by
 rw [li_z16z]
 exact sComp_is eq_G_Contact (fun _ => True) (fun x y _ _ R k => rfl) l (by have := NN_ok; omega) (by have := NN_ok; omega) (fun _ _ => trivial) k
theorem z9z_is {x y : G_Contact} (hx : Fine x) (hy : Fine y) (R : Type) (k : Bool → Option R) : z9z x y k = k (cmpC x y == 0) := by
 simp only [z9z, z9z_, I_z9z, z5z_is hx hy]
theorem compfC_is {l : List G_Contact} (hf : ∀ c ∈ l, Fine c) (hl : l.length ≤ 100000) (R : Type) (k : List G_Contact → Option R) : z4z l k = k (compactP (fun x y => cmpC x y == 0) l) := by
 rw [li_z4z]
 exact sComp_is _ Fine (fun x y hx hy R k => z9z_is hx hy R k) l (by have := NN_ok; omega) (by have := NN_ok; omega) hf k
theorem catC_is {a b : List G_Contact} (ha : a.length ≤ 100000) (hb : b.length ≤ 100000) (R : Type) (k : List G_Contact → Option R) : z10z [a, b] k = k (a ++ b) := by
 rw [li_z10z]; exact sCat_two a b ha hb (by omega) (by have := NN_ok; omega) k
theorem cloneC_is {l : List G_Contact} (hl : l.length ≤ 1000000) (R : Type) (k : List G_Contact → Option R) : z70z l k = k l := X_clone_is l hl (by omega) k
theorem equalC_is {l : List G_Contact} (hl : l.length ≤ 1000000) (R : Type) (k : Bool → Option R) : z38z l l k = k true := by
 rw [li_z38z]; exact sEqual_same (by have := NN_ok; omega) (by have := NN_ok; omega) (fun x => by rw [(eq_G_Contact_is x x).2 rfl]; rfl) k
end Go.Am
