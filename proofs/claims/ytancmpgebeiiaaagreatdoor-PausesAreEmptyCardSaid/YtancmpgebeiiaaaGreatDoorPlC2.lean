/- The plain law, in Lean alone: C2. No condition: lemmas for the claim. -/
import Derived.Test.YtancmpgebeiiaaaGreatDoorPlS1
import Derived.Test.YtancmpgebeiiaaaGreatDoorPlK
set_option linter.unusedVariables false
set_option linter.unusedSectionVars false
set_option linter.unusedSimpArgs false
set_option maxRecDepth 100000
namespace Go.Am
open Go Go.Proofs
variable [Fuel]
theorem sortC_ord {l : List G_Contact} (hf : ∀ c ∈ l, Fine c) (hl : l.length ≤ 20) (R : Type) (k : List G_Contact → Option R) : slices_SortStableFunc__Contact_Q_ContactOrder l k = k (sortI cmpC l) := by
 simp only [slices_SortStableFunc__Contact_Q_ContactOrder, slices_SortStableFunc__Contact_Q_ContactOrder_, I_slices_SortStableFunc__Contact_Q_ContactOrder, li_slices_stableCmpFunc__Contact_Q_ContactOrder]
 exact sSta_is cmpC Fine (fun x y hx hy => Q_ContactOrder_is hx hy) l hf hl (by have := NN_ok; omega) (by have := NN_ok; omega) _ (fun l a b R k => by rw [li_slices_insertionSortCmpFunc__Contact_Q_ContactOrder]) k
theorem Stream_Contacts_1_is {x y : G_Contact} (hx : Fine x) (hy : Fine y) (R : Type) (k : Bool → Option R) : Stream_Contacts_1 x y k = k (cmpC x y == 0) := by
 simp only [Stream_Contacts_1, Stream_Contacts_1_, I_Stream_Contacts_1, Q_ContactOrder_is hx hy]
theorem compfC_is {l : List G_Contact} (hf : ∀ c ∈ l, Fine c) (hl : l.length ≤ 100000) (R : Type) (k : List G_Contact → Option R) : slices_CompactFunc__Contact_Stream_Contacts_1 l k = k (compactP (fun x y => cmpC x y == 0) l) := by
 rw [li_slices_CompactFunc__Contact_Stream_Contacts_1]
 exact sComp_is _ Fine (fun x y hx hy R k => Stream_Contacts_1_is hx hy R k) l (by have := NN_ok; omega) (by have := NN_ok; omega) hf k
theorem Stream_Contacts_loop (m : Nat) (hm : m ≤ 1000) : ∀ (n i : Nat) (at0 : Int) (s : G_Stream) (out : List G_Contact) (b : Int), m - i < n → i ≤ m → SOk (b + 31 * (i : Int)) s → b ≤ 1000000 → 0 ≤ at0 → at0 ≤ 1500000 * (i : Int) → out.length = i → (∀ c ∈ out, Fine c ∧ c.f_Heard ≤ 1099511627776) → m ≤ 600 →
  ∃ (r : List G_Contact) (s' : G_Stream), SOk (b + 31 * (m : Int)) s' ∧ r.length = m ∧ (∀ c ∈ r, Fine c ∧ c.f_Heard ≤ 1099511627776) ∧ ∀ (R : Type) (e0 : G_Stream → List G_Contact → Option R), Stream_Contacts_L4 I_Stream_Contacts n at0 (m : Int) (i : Int) s out e0 = e0 s' r
 | 0, i, _, _, _, _, h, _, _, _, _, _, _, _, _ => by omega
 | n + 1, i, at0, s, out, b, h, hi, hs, hb, h1, h2, ho, hf, hm6 => by
  by_cases hc : i < m
  ·obtain ⟨p, s1, hp, z1, ep⟩ := Stream_Pick_gives hs [0, 1, 10, 50, 1000, 40000, 1500000] (by omega) (by simp) (by simp)
   have hp' : 0 ≤ p ∧ p ≤ 1500000 := by
    simp only [List.mem_cons, List.not_mem_nil, or_false] at hp
    omega
   have e1 : w64 (at0 + p) = at0 + p := w64_eq (by omega) (by omega)
   obtain ⟨c, s2, hcf, hch, z2, ec⟩ := Stream_SomeContact_gives z1 (at0 + p) (by omega) (by omega) (by omega)
   obtain ⟨r, s', g1, g2, g3, g4⟩ := Stream_Contacts_loop m hm n (i + 1) (at0 + p) s2 (out ++ [c]) b (by omega) (by omega) (z2.mono (by omega)) hb (by omega) (by omega) (by simp [ho]) (fun x hx => by
    rcases List.mem_append.1 hx with h | h
    ·exact hf x h
    ·simp at h; rw [h]; exact ⟨hcf, hch⟩) hm6
   refine ⟨r, s', g1, g2, g3, fun R e0 => ?_⟩
   rw [Stream_Contacts_L4]
   simp only [I_Stream_Contacts, decide_eq_true (show (i : Int) < (m : Int) by omega), cond_true, ep, e1, ec, room1 out c 96 (by omega) (by omega)]
   rw [w64_succ (by omega)]
   exact g4 R e0
  ·refine ⟨out, s, hs.mono (by omega), by omega, hf, fun R e0 => ?_⟩
   rw [Stream_Contacts_L4, decide_eq_false (by omega)]; rfl
theorem Stream_Contacts_gives {b : Int} {s : G_Stream} (hs : SOk b s) (hb : b ≤ 1000000) (m : Nat) (hm : m ≤ 20) :
  ∃ (r : List G_Contact) (s' : G_Stream), SOk (b + 31 * (m : Int)) s' ∧ r.length ≤ m ∧ (∀ c ∈ r, Fine c ∧ c.f_Heard ≤ 1099511627776) ∧ ∀ (R : Type) (k : List G_Contact → G_Stream → Option R), Stream_Contacts s (m : Int) k = k r s' := by
 obtain ⟨r, s', g1, g2, g3, g4⟩ := Stream_Contacts_loop m (by omega) NN 0 0 s [] b (by have := NN_ok; omega) (by omega) (hs.mono (by omega)) hb (by omega) (by omega) rfl (fun c h => by cases h) (by omega)
 have g4' : ∀ (R : Type) (e0 : G_Stream → List G_Contact → Option R), Stream_Contacts_L4 I_Stream_Contacts I_Stream_Contacts.N 0 (m : Int) 0 s [] e0 = e0 s' r := g4
 have hr : ∀ c ∈ r, Fine c := fun c h => (g3 c h).1
 have hsr : ∀ c ∈ sortI cmpC r, Fine c := fun c h => hr c (sortI_mem.1 h)
 refine ⟨compactP (fun x y => cmpC x y == 0) (sortI cmpC r), s', g1, ?_, fun c h => g3 c (sortI_mem.1 (compactP_sub h)), fun R k => ?_⟩
 ·have := compactP_len (fun x y => cmpC x y == 0) (sortI cmpC r)
  have := sortI_length cmpC r
  omega
 ·simp only [Stream_Contacts, Stream_Contacts_, g4']
  simp only [I_Stream_Contacts, sortC_ord hr (by omega), compfC_is hsr (by rw [sortI_length]; omega)]
end Go.Am
