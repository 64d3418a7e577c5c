/- The plain law, in Lean alone: C2. No condition: lemmas for the claim. -/
import Derived.Test.YthfphbbhjodbcaaGreatDoorPlC1
import Derived.Test.YthfphbbhjodbcaaGreatDoorPlK
set_option linter.unusedVariables false
set_option linter.unusedSectionVars false
set_option linter.unusedSimpArgs false
set_option maxRecDepth 100000
namespace Go.Am
open Go Go.Proofs
variable [Fuel]
theorem sortC_ord {l : List G_Contact} (hf : ∀ c ∈ l, Fine c) (hl : l.length ≤ 20) (R : Type) (k : List G_Contact → Option R) : slices_SortStableFunc__Contact_Q_ContactOrder l k = k (sortI cmpC l) := by
  simp only [slices_SortStableFunc__Contact_Q_ContactOrder, slices_SortStableFunc__Contact_Q_ContactOrder_, I_slices_SortStableFunc__Contact_Q_ContactOrder, li_slices_stableCmpFunc__Contact_Q_ContactOrder]
  exact sSta_is cmpC Fine (fun x y hx hy => Q_ContactOrder_is hx hy) l hf hl (by have := NN_ok; omega) (by have := NN_ok; omega) _ (fun l a b R k => by rw [li_slices_insertionSortCmpFunc__Contact_Q_ContactOrder]) k
theorem sortC_cmp {l : List G_Contact} (hl : l.length ≤ 20) (R : Type) (k : List G_Contact → Option R) : slices_SortStableFunc__Contact_log_Compare l k = k (sortI cmpC l) := by
  simp only [slices_SortStableFunc__Contact_log_Compare, slices_SortStableFunc__Contact_log_Compare_, I_slices_SortStableFunc__Contact_log_Compare, li_slices_stableCmpFunc__Contact_log_Compare]
  exact sSta_is cmpC (fun _ => True) (fun x y _ _ => log_Compare_is x y) l (fun _ _ => trivial) hl (by have := NN_ok; omega) (by have := NN_ok; omega) _ (fun l a b R k => by rw [li_slices_insertionSortCmpFunc__Contact_log_Compare]) k
theorem compC_is {l : List G_Contact} (hl : l.length ≤ 100000) (R : Type) (k : List G_Contact → Option R) : slices_Compact__Contact l k = k (compactP eq_G_Contact l) := by
  rw [li_slices_Compact__Contact]
  exact sComp_is eq_G_Contact (fun _ => True) (fun x y _ _ R k => rfl) l (by have := NN_ok; omega) (by have := NN_ok; omega) (fun _ _ => trivial) k
theorem Stream_Contacts_1_is {x y : G_Contact} (hx : Fine x) (hy : Fine y) (R : Type) (k : Bool → Option R) : Stream_Contacts_1 x y k = k (cmpC x y == 0) := by
  simp only [Stream_Contacts_1, Stream_Contacts_1_, I_Stream_Contacts_1, Q_ContactOrder_is hx hy]
theorem compfC_is {l : List G_Contact} (hf : ∀ c ∈ l, Fine c) (hl : l.length ≤ 100000) (R : Type) (k : List G_Contact → Option R) : slices_CompactFunc__Contact_Stream_Contacts_1 l k = k (compactP (fun x y => cmpC x y == 0) l) := by
  rw [li_slices_CompactFunc__Contact_Stream_Contacts_1]
  exact sComp_is _ Fine (fun x y hx hy R k => Stream_Contacts_1_is hx hy R k) l (by have := NN_ok; omega) (by have := NN_ok; omega) hf k
theorem catC_is {a b : List G_Contact} (ha : a.length ≤ 100000) (hb : b.length ≤ 100000) (R : Type) (k : List G_Contact → Option R) : slices_Concat__Contact [a, b] k = k (a ++ b) := by
  rw [li_slices_Concat__Contact]; exact sCat_two a b ha hb (by omega) (by have := NN_ok; omega) k
theorem cloneC_is {l : List G_Contact} (hl : l.length ≤ 1000000) (R : Type) (k : List G_Contact → Option R) : slices_Clone__Contact l k = k l := X_clone_is l hl (by omega) k
theorem equalC_is {l : List G_Contact} (hl : l.length ≤ 1000000) (R : Type) (k : Bool → Option R) : slices_Equal__Contact l l k = k true := by
  rw [li_slices_Equal__Contact]; exact sEqual_same (by have := NN_ok; omega) (by have := NN_ok; omega) (fun x => by rw [(eq_G_Contact_is x x).2 rfl]; rfl) k
theorem Stream_Contacts_loop (m : Nat) (hm : m ≤ 1000) : ∀ (n i : Nat) (at0 : Int) (s : G_Stream) (out : List G_Contact) (b : Int), m - i < n → i ≤ m → SOk (b + 31 * (i : Int)) s → b ≤ 1000000 → 0 ≤ at0 → at0 ≤ 1500000 * (i : Int) → out.length = i → (∀ c ∈ out, Fine c ∧ c.f_Heard ≤ 1099511627776) → m ≤ 600 →
    ∃ (r : List G_Contact) (s' : G_Stream), SOk (b + 31 * (m : Int)) s' ∧ r.length = m ∧ (∀ c ∈ r, Fine c ∧ c.f_Heard ≤ 1099511627776) ∧ ∀ (R : Type) (e0 : G_Stream → List G_Contact → Option R), Stream_Contacts_L4 I_Stream_Contacts n at0 (m : Int) (i : Int) s out e0 = e0 s' r
  | 0, i, _, _, _, _, h, _, _, _, _, _, _, _, _ => by omega
  | n + 1, i, at0, s, out, b, h, hi, hs, hb, h1, h2, ho, hf, hm6 => by
    by_cases hc : i < m
    · obtain ⟨p, s1, hp, z1, ep⟩ := Stream_Pick_gives hs [0, 1, 10, 50, 1000, 40000, 1500000] (by omega) (by simp) (by simp)
      have hp' : 0 ≤ p ∧ p ≤ 1500000 := by
        simp only [List.mem_cons, List.not_mem_nil, or_false] at hp
        omega
      have e1 : w64 (at0 + p) = at0 + p := w64_eq (by omega) (by omega)
      obtain ⟨c, s2, hcf, hch, z2, ec⟩ := Stream_SomeContact_gives z1 (at0 + p) (by omega) (by omega) (by omega)
      obtain ⟨r, s', g1, g2, g3, g4⟩ := Stream_Contacts_loop m hm n (i + 1) (at0 + p) s2 (out ++ [c]) b (by omega) (by omega) (z2.mono (by omega)) hb (by omega) (by omega) (by simp [ho]) (fun x hx => by
        rcases List.mem_append.1 hx with h | h
        · exact hf x h
        · simp at h; rw [h]; exact ⟨hcf, hch⟩) hm6
      refine ⟨r, s', g1, g2, g3, fun R e0 => ?_⟩
      rw [Stream_Contacts_L4]
      simp only [I_Stream_Contacts, decide_eq_true (show (i : Int) < (m : Int) by omega), cond_true, ep, e1, ec, room1 out c 96 (by omega) (by omega)]
      rw [w64_succ (by omega)]
      exact g4 R e0
    · refine ⟨out, s, hs.mono (by omega), by omega, hf, fun R e0 => ?_⟩
      rw [Stream_Contacts_L4, decide_eq_false (by omega)]; rfl
theorem Stream_Contacts_gives {b : Int} {s : G_Stream} (hs : SOk b s) (hb : b ≤ 1000000) (m : Nat) (hm : m ≤ 20) :
    ∃ (r : List G_Contact) (s' : G_Stream), SOk (b + 31 * (m : Int)) s' ∧ r.length ≤ m ∧ (∀ c ∈ r, Fine c ∧ c.f_Heard ≤ 1099511627776) ∧ ∀ (R : Type) (k : List G_Contact → G_Stream → Option R), Stream_Contacts s (m : Int) k = k r s' := by
  obtain ⟨r, s', g1, g2, g3, g4⟩ := Stream_Contacts_loop m (by omega) NN 0 0 s [] b (by have := NN_ok; omega) (by omega) (hs.mono (by omega)) hb (by omega) (by omega) rfl (fun c h => by cases h) (by omega)
  have g4' : ∀ (R : Type) (e0 : G_Stream → List G_Contact → Option R), Stream_Contacts_L4 I_Stream_Contacts I_Stream_Contacts.N 0 (m : Int) 0 s [] e0 = e0 s' r := g4
  have hr : ∀ c ∈ r, Fine c := fun c h => (g3 c h).1
  have hsr : ∀ c ∈ sortI cmpC r, Fine c := fun c h => hr c (sortI_mem.1 h)
  refine ⟨compactP (fun x y => cmpC x y == 0) (sortI cmpC r), s', g1, ?_, fun c h => g3 c (sortI_mem.1 (compactP_sub h)), fun R k => ?_⟩
  · have := compactP_len (fun x y => cmpC x y == 0) (sortI cmpC r)
    have := sortI_length cmpC r
    omega
  · simp only [Stream_Contacts, Stream_Contacts_, g4']
    simp only [I_Stream_Contacts, sortC_ord hr (by omega), compfC_is hsr (by rw [sortI_length]; omega)]
def adjC (p : G_Contact) : List G_Contact → Bool
  | [] => false
  | y :: ys => bif cmpC p y == 0 then true else adjC y ys
theorem log_Merge_loop (l : List G_Contact) (hl : l.length ≤ 100000) : ∀ (rest : List G_Contact) (p : G_Contact) (n i : Nat), l.drop (i - 1) = p :: rest → 1 ≤ i → rest.length < n → ∀ (R : Type) (e0 : Int → List G_Contact → Option R) (e1 : List G_Contact → Option R),
    log_Merge_L8 I_log_Merge n (i : Int) l e0 e1 = bif adjC p rest then e0 13 l else e1 l
  | _, _, 0, _, _, _, h, _, _, _ => by omega
  | [], p, n + 1, i, h, hi, _, R, e0, e1 => by
    have hd := drop_cons h
    simp at hd
    rw [log_Merge_L8, decide_eq_false (by omega)]; rfl
  | y :: ys, p, n + 1, i, h, hi, hn, R, e0, e1 => by
    have hd := drop_cons h
    have hj : i - 1 + 1 = i := by omega
    rw [hj] at hd
    have hd2 := drop_cons hd.2.2.1
    have ih := log_Merge_loop l hl ys y n (i + 1) (by simpa using hd.2.2.1) (by omega) (by simp at hn; omega) R e0 e1
    rw [log_Merge_L8, lt_drop hd.2.2.1]
    simp only [cond_true]
    rw [w64_pred (by omega) (by omega), inr_drop h, at_drop h, inr_drop hd.2.2.1, at_drop hd.2.2.1, w64_succ (by omega), ih]
    simp only [I_log_Merge, log_Compare_is, adjC]
    cases cmpC p y == 0 <;> rfl
theorem Q_LogsOf_loop (l : List G_Contact) (hf : ∀ c ∈ l, Fine c) (hl : l.length ≤ 100000) : ∀ (rest : List G_Contact) (p : G_Contact) (n i : Nat), l.drop (i - 1) = p :: rest → 1 ≤ i → rest.length < n → ∀ (R : Type) (e0 : Int → List G_Contact → Option R) (e1 : List G_Contact → Option R),
    Q_LogsOf_L5 I_Q_LogsOf n (l.length : Int) (i : Int) l e0 e1 = bif adjC p rest then e0 13 l else e1 l
  | _, _, 0, _, _, _, h, _, _, _ => by omega
  | [], p, n + 1, i, h, hi, _, R, e0, e1 => by
    have hd := drop_cons h
    simp at hd
    rw [Q_LogsOf_L5, decide_eq_false (by omega)]; rfl
  | y :: ys, p, n + 1, i, h, hi, hn, R, e0, e1 => by
    have hd := drop_cons h
    have hj : i - 1 + 1 = i := by omega
    rw [hj] at hd
    have hd2 := drop_cons hd.2.2.1
    have ih := Q_LogsOf_loop l hf hl ys y n (i + 1) (by simpa using hd.2.2.1) (by omega) (by simp at hn; omega) R e0 e1
    rw [Q_LogsOf_L5, lt_drop hd.2.2.1, decide_eq_true (show (i : Int) > 0 by omega)]
    simp only [cond_true]
    rw [w64_pred (by omega) (by omega), inr_drop h, at_drop h, inr_drop hd.2.2.1, at_drop hd.2.2.1, w64_succ (by omega), ih]
    simp only [I_Q_LogsOf, Q_ContactOrder_is (hf p (mem_drop h)) (hf y (mem_drop hd.2.2.1)), adjC]
    cases cmpC p y == 0 <;> rfl
def adjL : List G_Contact → Bool
  | [] => false
  | x :: xs => adjC x xs
def mergeC (a b : List G_Contact) : List G_Contact := compactP eq_G_Contact (sortI cmpC (a ++ b))
def mergedC (a b : List G_Contact) : List G_Contact × Int := bif adjL (mergeC a b) then ([], 13) else bif decide (((mergeC a b).length : Int) > 2000) then ([], 2) else (mergeC a b, 0)
theorem mergeC_len (a b : List G_Contact) : (mergeC a b).length ≤ a.length + b.length := by
  have h1 := compactP_len eq_G_Contact (sortI cmpC (a ++ b))
  have h2 := sortI_length cmpC (a ++ b)
  simp at h2
  unfold mergeC; omega
theorem mergeC_mem {a b : List G_Contact} {c : G_Contact} (h : c ∈ mergeC a b) : c ∈ a ∨ c ∈ b := List.mem_append.1 (sortI_mem.1 (compactP_sub h))
theorem log_checkBoth_is {a b : List G_Contact} (ha : ∀ c ∈ a, Fine c) (hb : ∀ c ∈ b, Fine c) (hla : a.length ≤ 100000) (hlb : b.length ≤ 100000) (R : Type) (k : Int → Option R) :
    log_checkBoth a b k = k (orL [faultL a, faultL b]) := by
  simp only [log_checkBoth, log_checkBoth_, I_log_checkBoth, log_CheckLog_is ha hla, log_CheckLog_is hb hlb, orL]
  cases h : faultL a != 0 with
  | true => rfl
  | false =>
    simp only [cond_false]
    cases h2 : faultL b != 0 with
    | true => rfl
    | false =>
      have : faultL b = 0 := by simpa using h2
      rw [this]; rfl
theorem log_Merge_is {a b : List G_Contact} (ha : ∀ c ∈ a, Fine c) (hb : ∀ c ∈ b, Fine c) (hl : a.length + b.length ≤ 20) (R : Type) (k : List G_Contact → Int → Option R) :
    log_Merge a b k = bif orL [faultL a, faultL b] != 0 then k [] (orL [faultL a, faultL b]) else k (mergedC a b).1 (mergedC a b).2 := by
  have hm := mergeC_len a b
  have hloop : ∀ (R : Type) (e0 : Int → List G_Contact → Option R) (e1 : List G_Contact → Option R), log_Merge_L8 I_log_Merge I_log_Merge.N 1 (mergeC a b) e0 e1 = bif adjL (mergeC a b) then e0 13 (mergeC a b) else e1 (mergeC a b) := fun R e0 e1 => by
    cases hq : mergeC a b with
    | nil =>
      obtain ⟨m, e, _⟩ := NN_succ
      rw [show I_log_Merge.N = m + 1 from e, log_Merge_L8]; rfl
    | cons x xs => exact log_Merge_loop (x :: xs) (by rw [← hq]; omega) xs x I_log_Merge.N 1 rfl (by omega) (by show xs.length < NN; rw [hq] at hm; simp at hm; have := NN_ok; omega) R e0 e1
  have hco : ∀ (R : Type) (k : List G_Contact → Option R), slices_Compact__Contact (sortI cmpC (a ++ b)) k = k (mergeC a b) := fun R k => compC_is (by rw [sortI_length]; simp; omega) R k
  simp only [I_log_Merge] at hloop
  simp only [log_Merge, log_Merge_, hloop, I_log_Merge, log_checkBoth_is ha hb (by omega) (by omega), catC_is (show a.length ≤ 100000 by omega) (show b.length ≤ 100000 by omega), sortC_cmp (show (a ++ b).length ≤ 20 by simp; omega), hco, mergedC]
  cases orL [faultL a, faultL b] != 0 <;> cases adjL (mergeC a b) <;> cases decide (((mergeC a b).length : Int) > 2000) <;> rfl
theorem Q_LogsOf_is {a b : List G_Contact} (ha : ∀ c ∈ a, Fine c) (hb : ∀ c ∈ b, Fine c) (hl : a.length + b.length ≤ 20) (R : Type) (k : List G_Contact → Int → Option R) :
    Q_LogsOf a b k = k (mergedC a b).1 (mergedC a b).2 := by
  have hm := mergeC_len a b
  have hab : ∀ c ∈ a ++ b, Fine c := fun c h => by rcases List.mem_append.1 h with h | h; exact ha c h; exact hb c h
  have hmf : ∀ c ∈ mergeC a b, Fine c := fun c h => by rcases mergeC_mem h with h | h; exact ha c h; exact hb c h
  have hloop : ∀ (R : Type) (e0 : Int → List G_Contact → Option R) (e1 : List G_Contact → Option R), Q_LogsOf_L5 I_Q_LogsOf I_Q_LogsOf.N ((mergeC a b).length : Int) 0 (mergeC a b) e0 e1 = bif adjL (mergeC a b) then e0 13 (mergeC a b) else e1 (mergeC a b) := fun R e0 e1 => by
    cases hq : mergeC a b with
    | nil =>
      obtain ⟨m, e, _⟩ := NN_succ
      rw [show I_Q_LogsOf.N = m + 1 from e, Q_LogsOf_L5]; rfl
    | cons x xs =>
      rw [hq] at hm hmf
      obtain ⟨m, e, _⟩ := NN_succ
      rw [show I_Q_LogsOf.N = m + 1 from e, Q_LogsOf_L5, decide_eq_true (show (0 : Int) < ((x :: xs).length : Int) by simp), decide_eq_false (show ¬ (0 : Int) > 0 by omega)]
      simp only [cond_true, cond_false]
      rw [show w64 (0 + 1) = ((1 : Nat) : Int) from w64_eq (by omega) (by omega)]
      exact Q_LogsOf_loop (x :: xs) hmf (by omega) xs x m 1 rfl (by omega) (by simp at hm; omega) R e0 e1
  have hco : ∀ (R : Type) (k : List G_Contact → Option R), slices_Compact__Contact (sortI cmpC (a ++ b)) k = k (mergeC a b) := fun R k => compC_is (by rw [sortI_length]; simp; omega) R k
  simp only [I_Q_LogsOf] at hloop
  simp only [Q_LogsOf, Q_LogsOf_, hloop, I_Q_LogsOf, catC_is (show a.length ≤ 100000 by omega) (show b.length ≤ 100000 by omega), sortC_ord hab (show (a ++ b).length ≤ 20 by simp; omega), hco, mergedC]
  cases adjL (mergeC a b) <;> cases decide (((mergeC a b).length : Int) > 2000) <;> rfl
theorem log_Without_l3 (l : List G_Contact) (a : List G_Contact) (hl : l.length ≤ 100000) : ∀ (xs : List G_Contact) (n i : Nat) (m : List (G_Contact × Bool)), l.drop i = xs → xs.length < n → (∀ w, (mget_Contact_bool w m).getD false = (l.take i).contains w) →
    ∃ m', (∀ w, (mget_Contact_bool w m').getD false = l.contains w) ∧ ∀ (R : Type) (e0 : List G_Contact → List (G_Contact × Bool) → Option R), log_Without_L3 NN n a l (l.length : Int) (i : Int) m e0 = e0 a m'
  | _, 0, _, _, _, h, _ => by omega
  | [], n + 1, i, m, h, _, hm => by
    have := drop_nil h
    refine ⟨m, fun w => by rw [hm w, List.take_of_length_le this], fun R e0 => ?_⟩
    rw [log_Without_L3, ge_drop h]; rfl
  | x :: xs, n + 1, i, m, h, hn, hm => by
    have h' := drop_cons h
    obtain ⟨m', g1, g2⟩ := log_Without_l3 l a hl xs n (i + 1) (mset_Contact_bool x true m) h'.2.2.1 (by simp at hn; omega) (fun w => by
      have e := hm w
      rw [lm_get_Contact_bool] at e ⊢
      rw [lm_set_Contact_bool, aget_aset keq_Contact_is, List.take_add_one, h'.1]
      cases hq : keq_Contact w x with
      | true => have := (keq_Contact_is w x).1 hq; simp [this]
      | false =>
        have : w ≠ x := fun e => by rw [e, (keq_Contact_is x x).2 rfl] at hq; cases hq
        simp only [cond_false]
        rw [e]; simp [this])
    refine ⟨m', g1, fun R e0 => ?_⟩
    rw [log_Without_L3, lt_drop h]
    simp only [cond_true, get_drop h]
    rw [w64_succ (by omega)]
    exact g2 R e0
theorem log_Without_l9 (l : List G_Contact) (p : G_Contact → Bool) (m : List (G_Contact × Bool)) (hm : ∀ w, (mget_Contact_bool w m).getD false = p w) (hl : l.length ≤ 100000) : ∀ (xs : List G_Contact) (n i : Nat) (out : List G_Contact), l.drop i = xs → xs.length < n → out.length ≤ i →
    ∀ (R : Type) (e0 : List G_Contact → Option R), log_Without_L9 NN n l (l.length : Int) (i : Int) m out e0 = e0 (out ++ xs.filter (fun x => !p x))
  | _, 0, _, _, _, h, _, _, _ => by omega
  | [], n + 1, i, out, h, _, _, R, e0 => by rw [log_Without_L9, ge_drop h]; simp
  | x :: xs, n + 1, i, out, h, hn, ho, R, e0 => by
    have h' := drop_cons h
    rw [log_Without_L9, lt_drop h]
    simp only [cond_true, get_drop h, hm]
    rw [room1 out x 96 (by omega) (by omega), w64_succ (by omega)]
    cases hp : p x with
    | true =>
      simp only [Bool.not_true, cond_false]
      rw [log_Without_l9 l p m hm hl xs n (i + 1) out h'.2.2.1 (by simp at hn; omega) (by omega) R e0]
      simp [hp]
    | false =>
      simp only [Bool.not_false, cond_true]
      rw [log_Without_l9 l p m hm hl xs n (i + 1) (out ++ [x]) h'.2.2.1 (by simp at hn; omega) (by simp; omega) R e0]
      simp [hp]
def lackC (l more : List G_Contact) : List G_Contact := more.filter (fun x => !l.contains x)
theorem log_Without_is {l others : List G_Contact} (h1 : l.length ≤ 100000) (h2 : others.length ≤ 100000) (R : Type) (k : List G_Contact → Option R) : log_Without l others k = k (lackC others l) := by
  obtain ⟨m, g1, g2⟩ := log_Without_l3 others l h2 others NN 0 [] rfl (by have := NN_ok; omega) (fun w => by rw [mget_Contact_bool_nil]; simp)
  have g3 := log_Without_l9 l others.contains m g1 h1 l NN 0 [] rfl (by have := NN_ok; omega) (by simp)
  have g2' : ∀ (R : Type) (e0 : List G_Contact → List (G_Contact × Bool) → Option R), log_Without_L3 NN NN l others (others.length : Int) 0 [] e0 = e0 l m := g2
  have g3' : ∀ (R : Type) (e0 : List G_Contact → Option R), log_Without_L9 NN NN l (l.length : Int) 0 m [] e0 = e0 (lackC others l) := g3
  simp only [log_Without, log_Without_, g2', g3']
theorem log_Lacks_is {a b : List G_Contact} (ha : ∀ c ∈ a, Fine c) (hb : ∀ c ∈ b, Fine c) (hla : a.length ≤ 100000) (hlb : b.length ≤ 100000) (R : Type) (k : List G_Contact → Int → Option R) :
    log_Lacks a b k = bif orL [faultL a, faultL b] != 0 then k [] (orL [faultL a, faultL b]) else k (lackC a b) 0 := by
  simp only [log_Lacks, log_Lacks_, I_log_Lacks, log_checkBoth_is ha hb hla hlb, log_Without_is hlb hla]
theorem Q_LackingOf_is {a b : List G_Contact} (hla : a.length ≤ 100000) (hlb : b.length ≤ 100000) (R : Type) (k : List G_Contact → Option R) : Q_LackingOf a b k = k (lackC a b) := by
  have hf : ∀ x ∈ b, ∀ (R : Type) (k : Bool → List G_Contact → Option R), Q_LackingOf_1 x a k = k (a.contains x) a := fun x _ R k => by
    simp only [Q_LackingOf_1, Q_LackingOf_1_, I_Q_LackingOf_1, slices_Contains__Contact, slices_Contains__Contact_, I_slices_Contains__Contact, li_slices_Index__Contact, sIndex_is (N := NN) eq_G_Contact x a (by have := NN_ok; omega) (by have := NN_ok; omega), idxI_ge]
    congr 1
    rw [Bool.eq_iff_iff]
    simp only [List.any_eq_true, eq_G_Contact_is, List.contains_iff_mem]
    constructor
    · rintro ⟨y, hy, rfl⟩; exact hy
    · exact fun h => ⟨x, h, rfl⟩
  have hdel : ∀ (R : Type) (k : List G_Contact → List G_Contact → Option R), slices_DeleteFunc__Contact_Q_LackingOf_1 b a k = k (lackC a b) a := fun R k => by
    rw [li_slices_DeleteFunc__Contact_Q_LackingOf_1]
    exact sDel_is (fun a s R k => by rw [li_slices_IndexFunc__Contact_Q_LackingOf_1]) (fun x => a.contains x) a b hf (by have := NN_ok; omega) (by have := NN_ok; omega) k
  simp only [Q_LackingOf, Q_LackingOf_, I_Q_LackingOf, cloneC_is (show b.length ≤ 1000000 by omega), hdel]
end Go.Am
