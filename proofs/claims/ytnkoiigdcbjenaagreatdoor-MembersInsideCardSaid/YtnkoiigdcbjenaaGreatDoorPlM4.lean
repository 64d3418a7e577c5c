/- The plain law, in Lean alone: M4, M5. No condition: lemmas for the claim. -/
import Derived.Test.YtnkoiigdcbjenaaGreatDoorPlM3
import Derived.Test.YtnkoiigdcbjenaaGreatDoorPlB4
set_option linter.unusedVariables false
set_option linter.unusedSectionVars false
set_option linter.unusedSimpArgs false
set_option maxRecDepth 100000
namespace Go.Am
open Go Go.Proofs
variable [Fuel]
theorem u64_small {x : Int} (h1 : 0 ≤ x) (h2 : x ≤ 9223372036854775807) : IntKind.u64.wrap x = x := by
  have : IntKind.u64.wrap x = x % 18446744073709551616 := rfl
  rw [this]
  exact Int.emod_eq_of_lt h1 (by omega)
theorem mid_is {i j : Nat} (h : i + j < 4611686018427387904) : w64 (Int.fdiv (IntKind.u64.wrap (w64 ((i : Int) + (j : Int)))) (2 ^ (1 : Int).toNat)) = (((i + j) / 2 : Nat) : Int) := by
  have h2 : ((2 : Int) ^ (1 : Int).toNat) = 2 := rfl
  have h1 : w64 ((i : Int) + (j : Int)) = (i : Int) + (j : Int) := w64_eq (by omega) (by omega)
  rw [h1, u64_small (by omega) (by omega), h2]
  have h3 : Int.fdiv ((i : Int) + (j : Int)) 2 = (((i + j) / 2 : Nat) : Int) := by
    rw [Int.fdiv_eq_ediv_of_nonneg _ (by omega)]
    omega
  rw [h3, w64_eq (by omega) (by omega)]
theorem club_clubAt_1_is (x : G_Club) (key : List UInt8) (R : Type) (k : Int → Option R) : club_clubAt_1 x key k = k (Lib.compareBytes x.f_Key key) := by
  simp only [club_clubAt_1, club_clubAt_1_, I_club_clubAt_1, strings_Compare_is]
theorem sorted_at {c : List G_Club} (hs : SortedU c) {i j : Nat} {x y : G_Club} (hij : i < j) (hx : c[i]? = some x) (hy : c[j]? = some y) : Lib.compareBytes x.f_Key y.f_Key < 0 := by
  have hi : i < c.length := (List.getElem?_eq_some_iff.1 hx).1
  have hj : j < c.length := (List.getElem?_eq_some_iff.1 hy).1
  have := List.pairwise_iff_getElem.1 hs i j hi hj hij
  rw [List.getElem?_eq_getElem hi] at hx
  rw [List.getElem?_eq_getElem hj] at hy
  cases hx; cases hy
  exact this
theorem bs_loop (c : List G_Club) (hs : SortedU c) (hl : c.length ≤ 1000000) (key : List UInt8) (v5 : Int) : ∀ (n lo hi : Nat), lo ≤ hi → hi ≤ c.length → hi - lo < n → (∀ j x, j < lo → c[j]? = some x → Lib.compareBytes x.f_Key key < 0) → (∀ j x, hi ≤ j → c[j]? = some x → 0 ≤ Lib.compareBytes x.f_Key key) →
    ∃ p : Nat, p ≤ c.length ∧ (∀ j x, j < p → c[j]? = some x → Lib.compareBytes x.f_Key key < 0) ∧ (∀ j x, p ≤ j → c[j]? = some x → 0 ≤ Lib.compareBytes x.f_Key key) ∧
      ∀ (R : Type) (e0 : List G_Club → List UInt8 → Int → Int → Option R), slices_BinarySearchFunc__Club_string_club_clubAt_1_L3 I_slices_BinarySearchFunc__Club_string_club_clubAt_1 n c key v5 (lo : Int) (hi : Int) e0 = e0 c key v5 (p : Int)
  | 0, lo, hi, _, _, h, _, _ => by omega
  | n + 1, lo, hi, h1, h2, h3, h4, h5 => by
    by_cases hlt : lo < hi
    · have hm : (lo + hi) / 2 < c.length := by omega
      have hg : c[(lo + hi) / 2]? = some c[(lo + hi) / 2] := List.getElem?_eq_getElem hm
      have hmid := mid_is (show lo + hi < 4611686018427387904 by omega)
      have d0 : decide ((lo : Int) < (hi : Int)) = true := decide_eq_true (by omega)
      by_cases hc : Lib.compareBytes c[(lo + hi) / 2].f_Key key < 0
      · obtain ⟨p, p1, p2, p3, p4⟩ := bs_loop c hs hl key v5 n ((lo + hi) / 2 + 1) hi (by omega) h2 (by omega) (fun j x hj hx => by
          rcases Nat.lt_or_eq_of_le (Nat.le_of_lt_succ hj) with hj | rfl
          · exact cb_lt_trans (sorted_at hs hj hx hg) hc
          · rw [hg] at hx; cases hx; exact hc) h5
        refine ⟨p, p1, p2, p3, fun R e0 => ?_⟩
        have p4' := p4 R e0
        simp only [I_slices_BinarySearchFunc__Club_string_club_clubAt_1] at p4'
        rw [slices_BinarySearchFunc__Club_string_club_clubAt_1_L3, d0, cond_true, hmid, get_nat hg]
        simp only [I_slices_BinarySearchFunc__Club_string_club_clubAt_1, club_clubAt_1_is, decide_eq_true hc, cond_true, w64_succ (show (lo + hi) / 2 < 4611686018427387904 by omega), p4']
      · obtain ⟨p, p1, p2, p3, p4⟩ := bs_loop c hs hl key v5 n lo ((lo + hi) / 2) (by omega) (by omega) (by omega) h4 (fun j x hj hx => by
          rcases Nat.lt_or_eq_of_le hj with hj | rfl
          · have := sorted_at hs hj hg hx
            apply Classical.byContradiction
            intro hn
            exact hc (cb_lt_trans this (by omega))
          · rw [hg] at hx; cases hx; omega)
        refine ⟨p, p1, p2, p3, fun R e0 => ?_⟩
        have p4' := p4 R e0
        simp only [I_slices_BinarySearchFunc__Club_string_club_clubAt_1] at p4'
        rw [slices_BinarySearchFunc__Club_string_club_clubAt_1_L3, d0, cond_true, hmid, get_nat hg]
        simp only [I_slices_BinarySearchFunc__Club_string_club_clubAt_1, club_clubAt_1_is, decide_eq_false hc, cond_false, p4']
    · obtain rfl : lo = hi := by omega
      refine ⟨lo, by omega, h4, h5, fun R e0 => ?_⟩
      rw [slices_BinarySearchFunc__Club_string_club_clubAt_1_L3, decide_eq_false (by omega)]; rfl
def hasKey (c : List G_Club) (key : List UInt8) : Bool := c.any fun x => x.f_Key == key
theorem clubAt_gives {c : List G_Club} (hs : SortedU c) (hl : c.length ≤ 1000000) (key : List UInt8) : ∃ p : Nat, (∀ (R : Type) (k : Int → Bool → Option R), club_clubAt c key k = k (p : Int) (hasKey c key)) ∧ (hasKey c key = true → ∃ x, c[p]? = some x ∧ x.f_Key = key) := by
  obtain ⟨p, p1, p2, p3, p4⟩ := bs_loop c hs hl key (c.length : Int) NN 0 c.length (by omega) (by omega) (by have := NN_ok; omega) (fun j x h => by omega) (fun j x h hx => by have := (List.getElem?_eq_some_iff.1 hx).1; omega)
  have p4' : ∀ (R : Type) (e0 : List G_Club → List UInt8 → Int → Int → Option R), slices_BinarySearchFunc__Club_string_club_clubAt_1_L3 I_slices_BinarySearchFunc__Club_string_club_clubAt_1 NN c key (c.length : Int) 0 (c.length : Int) e0 = e0 c key (c.length : Int) (p : Int) := p4
  have hat : ∀ j x, c[j]? = some x → x.f_Key = key → j = p := by
    intro j x hx he
    have h0 : Lib.compareBytes x.f_Key key = 0 := cb_eq_zero.2 he
    rcases Nat.lt_trichotomy j p with h | h | h
    · have := p2 j x h hx; omega
    · exact h
    · have hj := (List.getElem?_eq_some_iff.1 hx).1
      have hg : c[p]? = some c[p] := List.getElem?_eq_getElem (by omega)
      have h1 := p3 p _ (Nat.le_refl _) hg
      have h2 := sorted_at hs h hg hx
      rw [he] at h2
      omega
  simp only [I_slices_BinarySearchFunc__Club_string_club_clubAt_1] at p4'
  by_cases hp : p < c.length
  · have hg : c[p]? = some c[p] := List.getElem?_eq_getElem hp
    have hk : hasKey c key = (Lib.compareBytes c[p].f_Key key == 0) := by
      rw [Bool.eq_iff_iff, beq_iff_eq, cb_eq_zero]
      unfold hasKey
      rw [List.any_eq_true]
      constructor
      · rintro ⟨x, hx, he⟩
        obtain ⟨j, hj⟩ := List.mem_iff_getElem?.1 hx
        have he : x.f_Key = key := by simpa using he
        have := hat j x hj he
        subst this
        rw [hg] at hj
        cases hj
        exact he
      · intro he
        exact ⟨_, List.getElem_mem hp, by simpa using he⟩
    refine ⟨p, fun R k => ?_, fun h => ⟨_, hg, ?_⟩⟩
    · simp only [club_clubAt, club_clubAt_, I_club_clubAt, slices_BinarySearchFunc__Club_string_club_clubAt_1, slices_BinarySearchFunc__Club_string_club_clubAt_1_, I_slices_BinarySearchFunc__Club_string_club_clubAt_1, p4', decide_eq_true (show (p : Int) < (c.length : Int) by omega), cond_true, get_nat hg, club_clubAt_1_is, hk]
    · rw [hk] at h; exact cb_eq_zero.1 (by simpa using h)
  · have hk : hasKey c key = false := by
      cases h : hasKey c key with
      | false => rfl
      | true =>
        obtain ⟨x, hx, he⟩ := List.any_eq_true.1 h
        obtain ⟨j, hj⟩ := List.mem_iff_getElem?.1 hx
        have := hat j x hj (by simpa using he)
        have := (List.getElem?_eq_some_iff.1 hj).1
        omega
    refine ⟨p, fun R k => ?_, fun h => by rw [hk] at h; cases h⟩
    simp only [club_clubAt, club_clubAt_, I_club_clubAt, slices_BinarySearchFunc__Club_string_club_clubAt_1, slices_BinarySearchFunc__Club_string_club_clubAt_1_, I_slices_BinarySearchFunc__Club_string_club_clubAt_1, p4', decide_eq_false (show ¬ (p : Int) < (c.length : Int) by omega), cond_false, hk]
noncomputable def hasP (a b : List UInt8) : Bool := bif decide ((a.length : Int) ≥ (b.length : Int)) then a.take b.length == b else false
theorem strings_HasPrefix_is (a b : List UInt8) (R : Type) (k : Bool → Option R) : strings_HasPrefix a b k = k (hasP a b) := by
  simp only [strings_HasPrefix, strings_HasPrefix_, I_strings_HasPrefix, stringslite_HasPrefix, stringslite_HasPrefix_, hasP]
  by_cases h : (a.length : Int) ≥ (b.length : Int)
  · rw [decide_eq_true h, decide_eq_true (show (0 : Int) ≤ (b.length : Int) by omega)]
    simp
  · rw [decide_eq_false h]; rfl
noncomputable def anySq (m : G_Member) (l : List (List UInt8)) : Bool := l.any fun q => hasP m.f_Locator q
noncomputable def insB (c : List G_Club) (m : G_Member) : Bool := c.any fun x => bif x.f_Key == m.f_Club then anySq m x.f_Squares else false
theorem club_any_is (m : G_Member) {l : List (List UInt8)} (hl : l.length ≤ 100000) (R : Type) (k : Bool → G_Member → Option R) : slices_ContainsFunc__string_club_isInside_1 l m k = k (anySq m l) m := by
  simp only [slices_ContainsFunc__string_club_isInside_1, slices_ContainsFunc__string_club_isInside_1_, I_slices_ContainsFunc__string_club_isInside_1, li_slices_IndexFunc__string_club_isInside_1]
  rw [sIndexF_is (@club_isInside_1 _) (fun q => hasP m.f_Locator q) m l (fun x _ R k => by simp only [club_isInside_1, club_isInside_1_, I_club_isInside_1, strings_HasPrefix_is]) (by have := NN_ok; omega) (by have := NN_ok; omega), idxI_ge]
  rfl
theorem Q_any_is (m : G_Member) {l : List (List UInt8)} (hl : l.length ≤ 100000) (R : Type) (k : Bool → G_Member → Option R) : slices_ContainsFunc__string_Q_inside_1 l m k = k (anySq m l) m := by
  simp only [slices_ContainsFunc__string_Q_inside_1, slices_ContainsFunc__string_Q_inside_1_, I_slices_ContainsFunc__string_Q_inside_1, li_slices_IndexFunc__string_Q_inside_1]
  rw [sIndexF_is (@Q_inside_1 _) (fun q => hasP m.f_Locator q) m l (fun x _ R k => by simp only [Q_inside_1, Q_inside_1_, I_Q_inside_1, strings_HasPrefix_is]) (by have := NN_ok; omega) (by have := NN_ok; omega), idxI_ge]
  rfl
theorem insB_at {c : List G_Club} (hs : SortedU c) {m : G_Member} {x : G_Club} (hx : x ∈ c) (he : x.f_Key = m.f_Club) : insB c m = anySq m x.f_Squares := by
  rw [Bool.eq_iff_iff]
  unfold insB
  rw [List.any_eq_true]
  constructor
  · rintro ⟨y, hy, h⟩
    cases hk : y.f_Key == m.f_Club with
    | false => rw [hk] at h; cases h
    | true =>
      rw [hk] at h
      have hyk : y.f_Key = m.f_Club := by simpa using hk
      obtain ⟨i, hi⟩ := List.mem_iff_getElem?.1 hx
      obtain ⟨j, hj⟩ := List.mem_iff_getElem?.1 hy
      have z : ∀ a b : List UInt8, a = b → Lib.compareBytes a b = 0 := fun a b e => cb_eq_zero.2 e
      rcases Nat.lt_trichotomy i j with hij | rfl | hij
      · have := sorted_at hs hij hi hj
        rw [z _ _ (he.trans hyk.symm)] at this; omega
      · rw [hi] at hj; cases hj; exact h
      · have := sorted_at hs hij hj hi
        rw [z _ _ (hyk.trans he.symm)] at this; omega
  · intro h
    exact ⟨x, hx, by rw [he, beq_self_eq_true]; exact h⟩
theorem club_isInside_is {c : List G_Club} (hf : ∀ x ∈ c, FineU x) (hs : SortedU c) (hl : c.length ≤ 1000000) (m : G_Member) (R : Type) (k : Bool → Option R) : club_isInside c m k = k (insB c m) := by
  obtain ⟨p, p1, p2⟩ := clubAt_gives hs hl m.f_Club
  simp only [club_isInside, club_isInside_, I_club_isInside, p1]
  cases h : hasKey c m.f_Club with
  | true =>
    obtain ⟨x, hx, he⟩ := p2 h
    have hm := List.mem_of_getElem? hx
    have hlen := (hf x hm).len
    simp only [cond_true, get_nat hx, club_any_is m (show x.f_Squares.length ≤ 100000 by omega), insB_at hs hm he]
  | false =>
    have : insB c m = false := by
      cases hi : insB c m with
      | false => rfl
      | true =>
        obtain ⟨y, hy, h2⟩ := List.any_eq_true.1 hi
        cases hk : y.f_Key == m.f_Club with
        | false => rw [hk] at h2; cases h2
        | true =>
          have : hasKey c m.f_Club = true := List.any_eq_true.2 ⟨y, hy, hk⟩
          rw [h] at this; cases this
    rw [this]; rfl
theorem Q_inside_loop (d : List G_Club) (hf : ∀ x ∈ d, FineU x) (hl : d.length ≤ 100000) (m : G_Member) : ∀ (xs : List G_Club) (n i : Nat), d.drop i = xs → xs.length < n → ∀ (R : Type) (k : Bool → Option R),
    Q_inside_L2 I_Q_inside n d (d.length : Int) (i : Int) m k (k false) = k (insB xs m)
  | _, 0, _, _, h, _, _ => by omega
  | [], n + 1, i, h, _, _, _ => by rw [Q_inside_L2, ge_drop h]; rfl
  | c :: cs, n + 1, i, h, hn, R, k => by
    have h' := drop_cons h
    have hlen := (hf c (mem_drop h)).len
    have ih := Q_inside_loop d hf hl m cs n (i + 1) h'.2.2.1 (by simp at hn; omega) R k
    rw [Q_inside_L2, lt_drop h]
    simp only [I_Q_inside] at ih
    simp only [cond_true, get_drop h, I_Q_inside, Q_any_is m (show c.f_Squares.length ≤ 100000 by omega), w64_succ (show i < 4611686018427387904 by omega), ih]
    have hi : insB (c :: cs) m = ((bif c.f_Key == m.f_Club then anySq m c.f_Squares else false) || insB cs m) := rfl
    rw [hi]
    cases c.f_Key == m.f_Club with
    | false => rfl
    | true => cases anySq m c.f_Squares <;> rfl
theorem Q_inside_is {d : List G_Club} (hf : ∀ x ∈ d, FineU x) (hl : d.length ≤ 100000) (m : G_Member) (R : Type) (k : Bool → Option R) : Q_inside d m k = k (insB d m) := by
  have h : Q_inside_L2 I_Q_inside I_Q_inside.N d (d.length : Int) 0 m k (k false) = k (insB d m) := Q_inside_loop d hf hl m d I_Q_inside.N 0 rfl (show d.length < NN by have := NN_ok; omega) R k
  simp only [Q_inside, Q_inside_, h]
theorem club_isDayM_is (d : Int) (R : Type) (k : Bool → Option R) : club_isDay d k = k (inB d 0 4000) := by
  simp only [club_isDay, club_isDay_, I_club_isDay, kit_Outside_is, Bool.not_not]
def cmpM (x y : G_Member) : Int := orL [Lib.compareBytes x.f_Call y.f_Call, cmpI x.f_Day y.f_Day]
noncomputable def chkM (c : List G_Club) (m : G_Member) : Int := bif !callB m.f_Call then 3 else bif !(baseB m.f_Call == m.f_Call) then 3 else bif (bif !(m.f_Club == []) then !hasKey c m.f_Club else false) then 8 else bif !inB m.f_Day 0 4000 then 1 else bif !locB m.f_Locator then 3 else 0
noncomputable def lowM (p : Option G_Member) (m : G_Member) : Int := match p with | none => 0 | some q => bif decide (cmpM q m ≥ 0) then 7 else 0
noncomputable def faultMs (c : List G_Club) : Option G_Member → List G_Member → Int
  | _, [] => 0
  | p, m :: ms => bif chkM c m != 0 then chkM c m else bif lowM p m != 0 then lowM p m else faultMs c (some m) ms
theorem club_memberFault_is (c : List G_Club) (hs : SortedU c) (hcl : c.length ≤ 1000000) (d : List G_Member) (hf : ∀ m ∈ d, FineM m) (hl : d.length ≤ 100000) {m : G_Member} {ms : List G_Member} {i : Nat} {p : Option G_Member} (h : d.drop i = m :: ms) (hp : PrevAt d i p) (R : Type) (k : Int → Option R) :
    club_memberFault c d (i : Int) k = k (bif chkM c m != 0 then chkM c m else lowM p m) := by
  have fm := hf m (mem_drop h)
  obtain ⟨q, q1, q2⟩ := parts_gives fm.call
  obtain ⟨j, j1, _⟩ := clubAt_gives hs hcl m.f_Club
  have tail : (bif decide ((i : Int) > 0) then get_ d (w64 ((i : Int) - 1)) fun x11 => get_ d (w64 ((i : Int) - 1)) fun x12 => k (bif decide (orL [Lib.compareBytes x11.f_Call m.f_Call, cmpI x12.f_Day m.f_Day] ≥ 0) then 7 else 0) else k 0) = k (lowM p m) := by
    cases p with
    | none => rw [decide_eq_false (show ¬ ((i : Int) > 0) by unfold PrevAt at hp; omega)]; rfl
    | some q =>
      obtain ⟨h0, ys, hq⟩ := hp
      rw [decide_eq_true (show ((i : Int) > 0) by omega), cond_true, prev_drop hq h0 (by omega), prev_drop hq h0 (by omega)]
      rfl
  have hor : ∀ (x11 x12 : G_Member), (cmp_Or__int [Lib.compareBytes x11.f_Call m.f_Call, cmpI x12.f_Day m.f_Day] (fun r15 => bif decide (r15 ≥ 0) then k 7 else k 0)) = k (bif decide (orL [Lib.compareBytes x11.f_Call m.f_Call, cmpI x12.f_Day m.f_Day] ≥ 0) then 7 else 0) := fun x y => by
    rw [cmp_Or__int_is _ (by simp)]
    cases decide (orL [Lib.compareBytes x.f_Call m.f_Call, cmpI y.f_Day m.f_Day] ≥ 0) <;> rfl
  simp only [club_memberFault, club_memberFault_, I_club_memberFault, get_drop h, q2, q1, j1, club_isDayM_is, club_isLocator_is fm.loc, strings_Compare_is, cmp_Compare__int_is, hor, tail, chkM]
  cases callB m.f_Call <;> cases baseB m.f_Call == m.f_Call <;> cases m.f_Club == [] <;> cases hasKey c m.f_Club <;> cases inB m.f_Day 0 4000 <;> cases locB m.f_Locator <;> rfl
theorem club_CheckMembers_loop (c : List G_Club) (hs : SortedU c) (hcl : c.length ≤ 1000000) (d : List G_Member) (hf : ∀ m ∈ d, FineM m) (hl : d.length ≤ 100000) : ∀ (xs : List G_Member) (n i : Nat) (p : Option G_Member), d.drop i = xs → PrevAt d i p → xs.length < n → ∀ (R : Type) (k : Int → Option R),
    club_CheckMembers_L7 I_club_CheckMembers n c d (d.length : Int) (i : Int) k (k 0) = k (faultMs c p xs)
  | _, 0, _, _, _, _, h, _, _ => by omega
  | [], n + 1, i, p, h, _, _, _, _ => by rw [club_CheckMembers_L7, ge_drop h]; rfl
  | m :: ms, n + 1, i, p, h, hp, hn, R, k => by
    have h' := drop_cons h
    have ih := club_CheckMembers_loop c hs hcl d hf hl ms n (i + 1) (some m) h'.2.2.1 (prevAt_next h) (by simp at hn; omega) R k
    rw [club_CheckMembers_L7, lt_drop h]
    simp only [I_club_CheckMembers] at ih
    simp only [cond_true, I_club_CheckMembers, club_memberFault_is c hs hcl d hf hl h hp, faultMs, w64_succ (show i < 4611686018427387904 by omega), ih]
    cases hq : chkM c m != 0 with
    | true => simp only [cond_true, hq]
    | false =>
      simp only [cond_false]
      cases lowM p m != 0 <;> rfl
theorem cmpM_is (q m : G_Member) {R : Type} (a b : Option R) : (bif Op.bytesLess m.f_Call q.f_Call then a else bif m.f_Call == q.f_Call then (bif decide (m.f_Day ≤ q.f_Day) then a else b) else b) = bif decide (cmpM q m ≥ 0) then a else b := by
  have hc : cmpM q m = bif Lib.compareBytes q.f_Call m.f_Call != 0 then Lib.compareBytes q.f_Call m.f_Call else bif cmpI q.f_Day m.f_Day != 0 then cmpI q.f_Day m.f_Day else 0 := rfl
  rw [bytesLess_is]
  have han := cb_anti q.f_Call m.f_Call
  by_cases h0 : Lib.compareBytes q.f_Call m.f_Call = 0
  · have he := cb_zero _ _ h0
    rw [h0] at hc han
    rw [he, cb_self, beq_self_eq_true, decide_eq_false (show ¬ (0 : Int) < 0 by omega)]
    simp only [cond_false, cond_true]
    have hd : decide (cmpM q m ≥ 0) = decide (m.f_Day ≤ q.f_Day) := by
      rw [hc, decide_eq_decide]
      simp only [bne_self_eq_false, cond_false]
      unfold cmpI
      by_cases h1 : q.f_Day < m.f_Day
      · rw [decide_eq_true h1]; simp; omega
      · rw [decide_eq_false h1]
        by_cases h2 : q.f_Day > m.f_Day
        · rw [decide_eq_true h2]; simp; omega
        · rw [decide_eq_false h2]; simp; omega
    rw [hd]
  · have hne : (Lib.compareBytes q.f_Call m.f_Call != 0) = true := by simpa using h0
    rw [hne, cond_true] at hc
    have hneq : (m.f_Call == q.f_Call) = false := by
      rw [beq_eq_false_iff_ne]
      intro e
      rw [e, cb_self] at h0
      exact h0 rfl
    rw [hneq, hc]
    by_cases h1 : Lib.compareBytes m.f_Call q.f_Call < 0
    · rw [decide_eq_true h1, decide_eq_true (show Lib.compareBytes q.f_Call m.f_Call ≥ 0 by omega)]; rfl
    · rw [decide_eq_false h1, decide_eq_false (show ¬ Lib.compareBytes q.f_Call m.f_Call ≥ 0 by omega)]; rfl
theorem Q_hasKey_is (c : List G_Club) (hl : c.length ≤ 100000) (m : G_Member) (R : Type) (k : Bool → G_Member → Option R) : slices_ContainsFunc__Club_Q_MembersFault_1 c m k = k (hasKey c m.f_Club) m := by
  simp only [slices_ContainsFunc__Club_Q_MembersFault_1, slices_ContainsFunc__Club_Q_MembersFault_1_, I_slices_ContainsFunc__Club_Q_MembersFault_1, li_slices_IndexFunc__Club_Q_MembersFault_1]
  rw [sIndexF_is (@Q_MembersFault_1 _) (fun x => x.f_Key == m.f_Club) m c (fun x _ R k => rfl) (by have := NN_ok; omega) (by have := NN_ok; omega), idxI_ge]
  rfl
theorem Q_MembersFault_loop (c : List G_Club) (hcl : c.length ≤ 100000) (d : List G_Member) (hf : ∀ m ∈ d, FineM m) (hl : d.length ≤ 100000) : ∀ (xs : List G_Member) (n i : Nat) (p : Option G_Member), d.drop i = xs → PrevAt d i p → xs.length < n → ∀ (R : Type) (k : Int → Option R),
    Q_MembersFault_L7 I_Q_MembersFault n c d d (d.length : Int) (i : Int) k (k 0) = k (faultMs c p xs)
  | _, 0, _, _, _, _, h, _, _ => by omega
  | [], n + 1, i, p, h, _, _, _, _ => by rw [Q_MembersFault_L7, ge_drop h]; rfl
  | m :: ms, n + 1, i, p, h, hp, hn, R, k => by
    have h' := drop_cons h
    have fm := hf m (mem_drop h)
    have ih := Q_MembersFault_loop c hcl d hf hl ms n (i + 1) (some m) h'.2.2.1 (prevAt_next h) (by simp at hn; omega) R k
    have tail : (bif decide ((i : Int) > 0) then get_ d (w64 ((i : Int) - 1)) fun x36 => bif Op.bytesLess m.f_Call x36.f_Call then k 7 else get_ d (w64 ((i : Int) - 1)) fun x37 => bif m.f_Call == x37.f_Call then (get_ d (w64 ((i : Int) - 1)) fun x38 => bif decide (m.f_Day ≤ x38.f_Day) then k 7 else k (faultMs c (some m) ms)) else k (faultMs c (some m) ms) else k (faultMs c (some m) ms)) =
        k (bif lowM p m != 0 then lowM p m else faultMs c (some m) ms) := by
      cases p with
      | none => rw [decide_eq_false (show ¬ ((i : Int) > 0) by unfold PrevAt at hp; omega)]; rfl
      | some q =>
        obtain ⟨h0, ys, hq⟩ := hp
        rw [decide_eq_true (show ((i : Int) > 0) by omega), cond_true]
        simp only [prev_drop hq h0 (show d.length < 4611686018427387904 by omega), cmpM_is, lowM]
        cases decide (cmpM q m ≥ 0) <;> rfl
    rw [Q_MembersFault_L7, lt_drop h]
    simp only [I_Q_MembersFault] at ih
    simp only [cond_true, get_drop h, I_Q_MembersFault, Q_Call_is fm.call, Q_BaseOf_is fm.call, Q_hasKey_is c hcl, Q_in_is, Q_locator_is fm.loc, faultMs, chkM, w64_succ (show i < 4611686018427387904 by omega), ih, tail]
    cases callB m.f_Call <;> cases baseB m.f_Call == m.f_Call <;> cases m.f_Club == [] <;> cases hasKey c m.f_Club <;> cases inB m.f_Day 0 4000 <;> cases locB m.f_Locator <;> rfl
noncomputable def faultM (c : List G_Club) (d : List G_Member) : Int := bif faultU c != 0 then faultU c else bif decide ((d.length : Int) > 1000) then 2 else faultMs c none d
theorem club_CheckMembers_is {c : List G_Club} (hc : ∀ x ∈ c, FineU x) (hcl : c.length ≤ 100000) {d : List G_Member} (hf : ∀ m ∈ d, FineM m) (hl : d.length ≤ 100000) (R : Type) (k : Int → Option R) : club_CheckMembers c d k = k (faultM c d) := by
  simp only [club_CheckMembers, club_CheckMembers_, I_club_CheckMembers, club_CheckClubs_is hc hcl, faultM]
  cases h1 : faultU c != 0 with
  | true => simp only [cond_true]
  | false =>
    have z : faultU c = 0 := by simpa using h1
    have h : club_CheckMembers_L7 I_club_CheckMembers NN c d (d.length : Int) 0 k (k 0) = k (faultMs c none d) := club_CheckMembers_loop c (faultU_sorted z).1 (by omega) d hf hl d NN 0 none rfl rfl (by have := NN_ok; omega) R k
    simp only [I_club_CheckMembers] at h
    simp only [cond_false, h]
    cases decide ((d.length : Int) > 1000) <;> rfl
theorem Q_MembersFault_is {c : List G_Club} (hc : ∀ x ∈ c, FineU x) (hcl : c.length ≤ 100000) {d : List G_Member} (hf : ∀ m ∈ d, FineM m) (hl : d.length ≤ 100000) (R : Type) (k : Int → Option R) : Q_MembersFault c d k = k (faultM c d) := by
  simp only [Q_MembersFault, Q_MembersFault_, I_Q_MembersFault, Q_ClubsFault_is hc hcl, faultM]
  cases h1 : faultU c != 0 with
  | true => simp only [cond_true]
  | false =>
    have h : Q_MembersFault_L7 I_Q_MembersFault NN c d d (d.length : Int) 0 k (k 0) = k (faultMs c none d) := Q_MembersFault_loop c hcl d hf hl d NN 0 none rfl rfl (by have := NN_ok; omega) R k
    simp only [I_Q_MembersFault] at h
    simp only [cond_false, h]
    cases decide ((d.length : Int) > 1000) <;> rfl
end Go.Am
set_option linter.unusedVariables false
set_option linter.unusedSectionVars false
set_option linter.unusedSimpArgs false
set_option maxRecDepth 100000
namespace Go.Am
open Go Go.Proofs
variable [Fuel]
def zM : G_Member := ⟨[], [], 0, []⟩
def lastM (day : Int) : List (List UInt8 × G_Member) → List G_Member → List (List UInt8 × G_Member)
  | m, [] => m
  | m, x :: xs => bif decide (x.f_Day ≤ day) then lastM day (aset keq_string x.f_Call x m) xs else lastM day m xs
def lineF (day : Int) (call : List UInt8) : G_Member → List G_Member → G_Member
  | a, [] => a
  | a, x :: xs => bif x.f_Call == call then (bif decide (x.f_Day ≤ day) then lineF day call x xs else lineF day call a xs) else lineF day call a xs
theorem line_last (day : Int) (call : List UInt8) : ∀ (l : List G_Member) (m : List (List UInt8 × G_Member)), (aget keq_string call (lastM day m l)).getD zM = lineF day call ((aget keq_string call m).getD zM) l
  | [], m => rfl
  | x :: xs, m => by
    unfold lastM lineF
    cases hd : decide (x.f_Day ≤ day) with
    | false =>
      simp only [cond_false]
      rw [line_last day call xs m]
      cases x.f_Call == call <;> rfl
    | true =>
      simp only [cond_true]
      rw [line_last day call xs, aget_aset keq_string_is]
      cases hc : x.f_Call == call with
      | true =>
        have e : call = x.f_Call := by have : x.f_Call = call := by simpa using hc
                                       exact this.symm
        rw [(keq_string_is call x.f_Call).2 e]; rfl
      | false =>
        have e : keq_string call x.f_Call = false := by
          cases hk : keq_string call x.f_Call with
          | false => rfl
          | true =>
            have := (keq_string_is _ _).1 hk
            rw [this, beq_self_eq_true] at hc; cases hc
        rw [e]; rfl
structure FineLast (l : List G_Member) (m : List (List UInt8 × G_Member)) : Prop where
  one : OneM m
  key : ∀ p ∈ m, p.2.f_Call = p.1
  mem : ∀ p ∈ m, p.2 ∈ l
theorem lastM_fine (day : Int) (l0 : List G_Member) : ∀ (l : List G_Member) (m : List (List UInt8 × G_Member)), (∀ x ∈ l, x ∈ l0) → FineLast l0 m → FineLast l0 (lastM day m l) ∧ (lastM day m l).length ≤ m.length + l.length
  | [], m, _, h => ⟨h, by simp [lastM]⟩
  | x :: xs, m, hl, h => by
    unfold lastM
    cases decide (x.f_Day ≤ day) with
    | false =>
      obtain ⟨h1, h2⟩ := lastM_fine day l0 xs m (fun y hy => hl y (by simp [hy])) h
      exact ⟨h1, by simp; omega⟩
    | true =>
      obtain ⟨h1, h2⟩ := lastM_fine day l0 xs (aset keq_string x.f_Call x m) (fun y hy => hl y (by simp [hy])) ⟨aset_one keq_string_is h.one _ _, fun p hp => by
        rcases aset_mem hp with rfl | hp
        · rfl
        · exact h.key p hp, fun p hp => by
        rcases aset_mem hp with rfl | hp
        · exact hl _ (by simp)
        · exact h.mem p hp⟩
      have := aset_len (eq := keq_string) x.f_Call x m
      exact ⟨h1, by simp; omega⟩
theorem club_last_loop (day : Int) (d : List G_Member) (hl : d.length ≤ 100000) : ∀ (xs : List G_Member) (n i : Nat) (m : List (List UInt8 × G_Member)), d.drop i = xs → xs.length < n → ∀ (R : Type) (e0 : List (List UInt8 × G_Member) → Option R),
    club_last_L3 NN n day d (d.length : Int) (i : Int) m e0 = e0 (lastM day m xs)
  | _, 0, _, _, _, h, _, _ => by omega
  | [], n + 1, i, m, h, _, R, e0 => by rw [club_last_L3, ge_drop h]; rfl
  | x :: xs, n + 1, i, m, h, hn, R, e0 => by
    have h' := drop_cons h
    have ih := fun m => club_last_loop day d hl xs n (i + 1) m h'.2.2.1 (by simp at hn; omega) R e0
    rw [club_last_L3, lt_drop h]
    simp only [cond_true, get_drop h, w64_succ (show i < 4611686018427387904 by omega), ih, lastM, lm_set_string_Member]
    cases decide (x.f_Day ≤ day) <;> rfl
theorem club_last_is {d : List G_Member} (hl : d.length ≤ 100000) (day : Int) (R : Type) (k : List (List UInt8 × G_Member) → Option R) : club_last d day k = k (lastM day [] d) := by
  have h : ∀ e0 : List (List UInt8 × G_Member) → Option R, club_last_L3 NN NN day d (d.length : Int) 0 [] e0 = e0 (lastM day [] d) := fun e0 => club_last_loop day d hl d NN 0 [] rfl (by have := NN_ok; omega) R e0
  simp only [club_last, club_last_, h]
theorem Q_lineOf_loop (call : List UInt8) (day : Int) (z : G_Member) (d : List G_Member) (hl : d.length ≤ 100000) : ∀ (xs : List G_Member) (n i : Nat) (a : G_Member), d.drop i = xs → xs.length < n → ∀ (R : Type) (e0 : G_Member → G_Member → Option R),
    Q_lineOf_L3 NN n call day d (d.length : Int) (i : Int) z a e0 = e0 z (lineF day call a xs)
  | _, 0, _, _, _, h, _, _ => by omega
  | [], n + 1, i, a, h, _, R, e0 => by rw [Q_lineOf_L3, ge_drop h]; rfl
  | x :: xs, n + 1, i, a, h, hn, R, e0 => by
    have h' := drop_cons h
    have ih := fun a => Q_lineOf_loop call day z d hl xs n (i + 1) a h'.2.2.1 (by simp at hn; omega) R e0
    rw [Q_lineOf_L3, lt_drop h]
    simp only [cond_true, get_drop h, w64_succ (show i < 4611686018427387904 by omega), ih, lineF]
    cases x.f_Call == call <;> cases decide (x.f_Day ≤ day) <;> rfl
theorem Q_lineOf_is {d : List G_Member} (hl : d.length ≤ 100000) (call : List UInt8) (day : Int) (R : Type) (k : G_Member → Option R) : Q_lineOf d call day k = k (lineF day call zM d) := by
  have h : ∀ e0 : G_Member → G_Member → Option R, Q_lineOf_L3 NN NN call day d (d.length : Int) 0 (⟨[], [], 0, []⟩ : G_Member) (⟨[], [], 0, []⟩ : G_Member) e0 = e0 (⟨[], [], 0, []⟩ : G_Member) (lineF day call zM d) := fun e0 => Q_lineOf_loop call day _ d hl d NN 0 _ rfl (by have := NN_ok; omega) R e0
  simp only [Q_lineOf, Q_lineOf_, h]
noncomputable def clubF (c : List G_Club) (x : G_Member) : List UInt8 := bif !insB c x then [] else x.f_Club
theorem etaM (b : G_Member) : (⟨b.f_Call, b.f_Club, b.f_Day, b.f_Locator⟩ : G_Member) = b := rfl
theorem club_clubOf_is {c : List G_Club} (hf : ∀ x ∈ c, FineU x) (hs : SortedU c) (hl : c.length ≤ 1000000) (m : List (List UInt8 × G_Member)) (base : List UInt8) (R : Type) (k : List UInt8 → List (List UInt8 × G_Member) → Option R) :
    club_clubOf c m base k = k (clubF c ((aget keq_string base m).getD zM)) m := by
  simp only [club_clubOf, club_clubOf_, I_club_clubOf, lm_get_string_Member, etaM, club_isInside_is hf hs hl]
  cases h : aget keq_string base m with
  | none =>
    simp only [Option.isSome_none, Bool.not_false, cond_true, Option.getD_none, clubF]
    cases !insB c zM <;> rfl
  | some x =>
    simp only [Option.isSome_some, Bool.not_true, cond_false, Option.getD_some, clubF]
    cases !insB c x <;> rfl
noncomputable def faultOf (c : List G_Club) (d : List G_Member) (sign : List UInt8) (day : Int) : Int := orL [faultM c d, bif callB sign then 0 else 3, bif inB day 0 4000 then 0 else 1]
noncomputable def faultOut (c : List G_Club) (d : List G_Member) (day : Int) : Int := orL [faultM c d, bif inB day 0 4000 then 0 else 1]
theorem faultM_zero {c : List G_Club} {d : List G_Member} (h : faultM c d = 0) : faultU c = 0 ∧ faultMs c none d = 0 := by
  unfold faultM at h
  cases h1 : faultU c != 0 with
  | true => rw [h1, cond_true] at h; rw [h] at h1; cases h1
  | false =>
    rw [h1, cond_false] at h
    refine ⟨by simpa using h1, ?_⟩
    cases h2 : decide ((d.length : Int) > 1000) with
    | true => rw [h2] at h; cases h
    | false => rw [h2] at h; exact h
theorem club_Of_is {c : List G_Club} (hc : ∀ x ∈ c, FineU x) (hcl : c.length ≤ 100000) {d : List G_Member} (hf : ∀ m ∈ d, FineM m) (hl : d.length ≤ 100000) {sign : List UInt8} (hsg : sign ∈ callsL) (day : Int) (R : Type) (k : List UInt8 → Int → Option R) :
    club_Of c d sign day k = bif faultOf c d sign day != 0 then k [] (faultOf c d sign day) else k (clubF c (lineF day (baseB sign) zM d)) 0 := by
  simp only [club_Of, club_Of_, I_club_Of, club_CheckMembers_is hc hcl hf hl, call_Is_is hsg, club_isDayM_is, club_last_is hl, call_BaseOf_is hsg, faultOf, orL]
  cases h1 : faultM c d != 0 with
  | true => simp only [cond_true, h1]
  | false =>
    have z : faultM c d = 0 := by simpa using h1
    have hs := (faultU_sorted (faultM_zero z).1).1
    simp only [cond_false]
    cases callB sign with
    | false => rfl
    | true =>
      cases inB day 0 4000 with
      | false => rfl
      | true =>
        have hll := line_last day (baseB sign) d []
        simp only [Bool.not_true, cond_false, club_clubOf_is hc hs (show c.length ≤ 1000000 by omega), hll]
        rfl
theorem Q_ClubFor_is {c : List G_Club} (hc : ∀ x ∈ c, FineU x) (hcl : c.length ≤ 100000) {d : List G_Member} (hl : d.length ≤ 100000) {sign : List UInt8} (hsg : sign ∈ callsL) (day : Int) (R : Type) (k : List UInt8 → Option R) :
    Q_ClubFor c d sign day k = k (clubF c (lineF day (baseB sign) zM d)) := by
  simp only [Q_ClubFor, Q_ClubFor_, I_Q_ClubFor, Q_BaseOf_is hsg, Q_lineOf_is hl, Q_inside_is hc hcl, clubF]
  cases !insB c (lineF day (baseB sign) zM d) <;> rfl
theorem callsL_len : ∀ s ∈ callsL, s.length ≤ 100 := by decide
theorem srtK9M_is (ks : List (List UInt8)) (hn : ks.Nodup) (hl : ∀ s ∈ ks, s.length ≤ 100000) (hc : ks.length ≤ 1000000) : srtK9 ks = some (sortI Lib.compareBytes ks) := by
  have e : ∀ l : List (List UInt8), List.map (fun x : List UInt8 => x) l = l := fun l => List.map_id' l
  have h := ordS_is (A := A) (k := 9) rfl ks (fun x => x) (fun x => x) (by show (List.map (fun x : List UInt8 => x) ks).Nodup; rw [e]; exact hn) (fun s hs => by
    have hs : s ∈ List.map (fun x : List UInt8 => x) ks := hs
    rw [e] at hs; exact hl s hs) hc
  refine h.trans ?_
  show some (List.map (fun x : List UInt8 => x) (sortI Lib.compareBytes (List.map (fun x : List UInt8 => x) ks))) = _
  rw [e, e]
noncomputable def predO (c : List G_Club) (x : G_Member) : Bool := bif !(x.f_Club == []) then !insB c x else false
theorem club_Outside_loop {c : List G_Club} (hc : ∀ x ∈ c, FineU x) (hs : SortedU c) (hcl : c.length ≤ 1000000) (m : List (List UInt8 × G_Member)) (d : List (List UInt8)) (hl : d.length ≤ 100000) : ∀ (xs : List (List UInt8)) (n i : Nat) (out : List (List UInt8)), d.drop i = xs → xs.length < n → out.length ≤ i → ∀ (R : Type) (e0 : List (List UInt8) → Option R),
    club_Outside_L9 I_club_Outside n c (d.length : Int) (i : Int) m d out e0 = e0 (out ++ xs.filter fun s => predO c ((aget keq_string s m).getD zM))
  | _, 0, _, _, _, h, _, _, _ => by omega
  | [], n + 1, i, out, h, _, _, R, e0 => by rw [club_Outside_L9, ge_drop h]; simp
  | x :: xs, n + 1, i, out, h, hn, ho, R, e0 => by
    have h' := drop_cons h
    have ih := fun o (ho : o.length ≤ i + 1) => club_Outside_loop hc hs hcl m d hl xs n (i + 1) o h'.2.2.1 (by simp at hn; omega) ho R e0
    have ih1 := ih (out ++ [x]) (by simp; omega)
    have ih2 := ih out (by omega)
    rw [club_Outside_L9, lt_drop h]
    simp only [I_club_Outside] at ih1 ih2
    simp only [cond_true, inr_drop h, at_drop h, I_club_Outside, lm_get_string_Member, etaM, club_isInside_is hc hs hcl, w64_succ (show i < 4611686018427387904 by omega), room1 out x 16 (show out.length ≤ 1000000 by omega) (by omega), ih1, ih2]
    show (bif !(((aget keq_string x m).getD zM).f_Club == []) then (bif !insB c ((aget keq_string x m).getD zM) then _ else _) else _) = _
    rw [List.filter_cons]
    unfold predO
    cases !(((aget keq_string x m).getD zM).f_Club == []) with
    | false => simp
    | true => cases !insB c ((aget keq_string x m).getD zM) <;> simp
def outQ (P : List UInt8 → Bool) : List (List UInt8) → List G_Member → List (List UInt8)
  | acc, [] => acc
  | acc, x :: xs => bif P x.f_Call then (bif !(acc.any fun y => y == x.f_Call) then outQ P (acc ++ [x.f_Call]) xs else outQ P acc xs) else outQ P acc xs
theorem containsS_is {l : List (List UInt8)} (hl : l.length ≤ 100000) (s : List UInt8) (R : Type) (k : Bool → Option R) : slices_Contains__string l s k = k (l.any fun y => y == s) := by
  simp only [slices_Contains__string, slices_Contains__string_, I_slices_Contains__string, li_slices_Index__string]
  rw [sIndexV_is _ s l (by have := NN_ok; omega) (by have := NN_ok; omega), idxI_ge]
  have e : (fun y : List UInt8 => s == y) = fun y => y == s := funext fun y => Bool.eq_iff_iff.2 ⟨fun h => beq_iff_eq.2 (beq_iff_eq.1 h).symm, fun h => beq_iff_eq.2 (beq_iff_eq.1 h).symm⟩
  rw [e]
theorem Q_OutsideOf_loop {c : List G_Club} (hc : ∀ x ∈ c, FineU x) (hcl : c.length ≤ 100000) (l : List G_Member) (hl : l.length ≤ 100000) (day : Int) : ∀ (xs : List G_Member) (n i : Nat) (out : List (List UInt8)), l.drop i = xs → xs.length < n → out.length ≤ i → ∀ (R : Type) (e0 : List (List UInt8) → Option R),
    Q_OutsideOf_L3 I_Q_OutsideOf n c l day l (l.length : Int) (i : Int) out e0 = e0 (outQ (fun s => predO c (lineF day s zM l)) out xs)
  | _, 0, _, _, _, h, _, _, _ => by omega
  | [], n + 1, i, out, h, _, _, R, e0 => by rw [Q_OutsideOf_L3, ge_drop h]; rfl
  | x :: xs, n + 1, i, out, h, hn, ho, R, e0 => by
    have h' := drop_cons h
    have ih := fun o (ho : o.length ≤ i + 1) => Q_OutsideOf_loop hc hcl l hl day xs n (i + 1) o h'.2.2.1 (by simp at hn; omega) ho R e0
    have ih1 := ih (out ++ [x.f_Call]) (by simp; omega)
    have ih2 := ih out (by omega)
    rw [Q_OutsideOf_L3, lt_drop h]
    simp only [I_Q_OutsideOf] at ih1 ih2
    simp only [cond_true, get_drop h, I_Q_OutsideOf, Q_lineOf_is hl, Q_inside_is hc hcl, containsS_is (show out.length ≤ 100000 by omega), w64_succ (show i < 4611686018427387904 by omega), room1 out x.f_Call 16 (show out.length ≤ 1000000 by omega) (by omega), ih1, ih2, outQ, predO]
    cases !((lineF day x.f_Call zM l).f_Club == []) with
    | false => rfl
    | true =>
      cases !insB c (lineF day x.f_Call zM l) with
      | false => rfl
      | true => cases !(out.any fun y => y == x.f_Call) <;> rfl
theorem outQ_facts (P : List UInt8 → Bool) : ∀ (l : List G_Member) (acc : List (List UInt8)), acc.Nodup → acc.Pairwise (fun a b => Lib.compareBytes a b ≤ 0) → l.Pairwise (fun a b => Lib.compareBytes a.f_Call b.f_Call ≤ 0) → (∀ a ∈ acc, ∀ x ∈ l, Lib.compareBytes a x.f_Call ≤ 0) →
    (outQ P acc l).Nodup ∧ (outQ P acc l).Pairwise (fun a b => Lib.compareBytes a b ≤ 0) ∧ (∀ s, s ∈ outQ P acc l ↔ s ∈ acc ∨ ∃ x ∈ l, x.f_Call = s ∧ P s = true) ∧ (outQ P acc l).length ≤ acc.length + l.length
  | [], acc, h1, h2, _, _ => ⟨h1, h2, fun s => by simp [outQ], by simp [outQ]⟩
  | x :: xs, acc, h1, h2, h3, h4 => by
    obtain ⟨h5, h6⟩ := List.pairwise_cons.1 h3
    have skip := outQ_facts P xs acc h1 h2 h6 (fun a ha y hy => h4 a ha y (by simp [hy]))
    unfold outQ
    cases hP : P x.f_Call with
    | false =>
      obtain ⟨g1, g2, g3, g4⟩ := skip
      refine ⟨g1, g2, fun s => ?_, by simp only [cond_false, List.length_cons]; omega⟩
      simp only [cond_false]
      rw [g3]
      constructor
      · rintro (h | ⟨y, hy, e, p⟩)
        · exact .inl h
        · exact .inr ⟨y, by simp [hy], e, p⟩
      · rintro (h | ⟨y, hy, e, p⟩)
        · exact .inl h
        · rcases List.mem_cons.1 hy with rfl | hy
          · rw [← e, hP] at p; cases p
          · exact .inr ⟨y, hy, e, p⟩
    | true =>
      simp only [cond_true]
      cases hA : acc.any fun y => y == x.f_Call with
      | true =>
        obtain ⟨g1, g2, g3, g4⟩ := skip
        obtain ⟨y, hy, hyx⟩ := List.any_eq_true.1 hA
        have hyx : y = x.f_Call := by simpa using hyx
        refine ⟨g1, g2, fun s => ?_, by simp only [Bool.not_true, cond_false, List.length_cons]; omega⟩
        simp only [Bool.not_true, cond_false]
        rw [g3]
        constructor
        · rintro (h | ⟨z, hz, e, p⟩)
          · exact .inl h
          · exact .inr ⟨z, by simp [hz], e, p⟩
        · rintro (h | ⟨z, hz, e, p⟩)
          · exact .inl h
          · rcases List.mem_cons.1 hz with rfl | hz
            · exact .inl (e ▸ hyx ▸ hy)
            · exact .inr ⟨z, hz, e, p⟩
      | false =>
        have hnot : x.f_Call ∉ acc := fun hm => by
          have : acc.any (fun y => y == x.f_Call) = true := List.any_eq_true.2 ⟨_, hm, by simp⟩
          rw [hA] at this; cases this
        obtain ⟨g1, g2, g3, g4⟩ := outQ_facts P xs (acc ++ [x.f_Call]) (List.nodup_append.2 ⟨h1, by simp, fun a ha b hb e => by simp at hb; subst hb; subst e; exact hnot ha⟩)
          (List.pairwise_append.2 ⟨h2, by simp, fun a ha b hb => by simp at hb; rw [hb]; exact h4 a ha x (by simp)⟩) h6 (fun a ha y hy => by
            rcases List.mem_append.1 ha with h | h
            · exact h4 a h y (by simp [hy])
            · simp at h; rw [h]; exact h5 y hy)
        refine ⟨g1, g2, fun s => ?_, by simp only [Bool.not_false, cond_true, List.length_cons]; simp at g4; omega⟩
        simp only [Bool.not_false, cond_true]
        rw [g3]
        constructor
        · rintro (h | ⟨z, hz, e, p⟩)
          · rcases List.mem_append.1 h with h | h
            · exact .inl h
            · simp at h; exact .inr ⟨x, by simp, h.symm, h ▸ hP⟩
          · exact .inr ⟨z, by simp [hz], e, p⟩
        · rintro (h | ⟨z, hz, e, p⟩)
          · exact .inl (by simp [h])
          · rcases List.mem_cons.1 hz with rfl | hz
            · exact .inl (by simp [e])
            · exact .inr ⟨z, hz, e, p⟩
theorem faultMs_calls (c : List G_Club) : ∀ (l : List G_Member) (p : Option G_Member), faultMs c p l = 0 → (∀ q, p = some q → ∀ m ∈ l, Lib.compareBytes q.f_Call m.f_Call ≤ 0) ∧ l.Pairwise fun a b => Lib.compareBytes a.f_Call b.f_Call ≤ 0
  | [], _, _ => ⟨fun _ _ _ h => (by cases h), .nil⟩
  | x :: xs, p, h => by
    unfold faultMs at h
    cases hx : chkM c x != 0 with
    | true => rw [hx] at h; simp only [cond_true] at h; rw [h] at hx; cases hx
    | false =>
      rw [hx, cond_false] at h
      cases hw : lowM p x != 0 with
      | true => rw [hw] at h; simp only [cond_true] at h; rw [h] at hw; cases hw
      | false =>
        rw [hw, cond_false] at h
        obtain ⟨g1, g2⟩ := faultMs_calls c xs (some x) h
        refine ⟨fun q hq m hm => ?_, List.Pairwise.cons (fun m hm => g1 x rfl m hm) g2⟩
        subst hq
        have hd : Lib.compareBytes q.f_Call x.f_Call ≤ 0 := by
          have hlt : ¬ cmpM q x ≥ 0 := by
            simp only [lowM] at hw
            intro hc
            rw [decide_eq_true hc] at hw
            cases hw
          have hc : cmpM q x = bif Lib.compareBytes q.f_Call x.f_Call != 0 then Lib.compareBytes q.f_Call x.f_Call else orL [cmpI q.f_Day x.f_Day] := rfl
          by_cases h0 : Lib.compareBytes q.f_Call x.f_Call = 0
          · omega
          · have : (Lib.compareBytes q.f_Call x.f_Call != 0) = true := by simpa using h0
            rw [this, cond_true] at hc
            omega
        rcases List.mem_cons.1 hm with rfl | hm
        · exact hd
        · exact cb_trans _ _ _ hd (g1 x rfl m hm)
theorem aget_none {K V : Type} {eq : K → K → Bool} (h : ∀ x y, eq x y = true ↔ x = y) (s : K) : ∀ (m : List (K × V)), s ∉ m.map (·.1) → aget eq s m = none
  | [], _ => rfl
  | p :: ps, hn => by
    unfold aget
    simp only [List.map_cons, List.mem_cons, not_or] at hn
    have : eq s p.1 = false := by
      cases hk : eq s p.1 with
      | false => rfl
      | true => exact absurd ((h _ _).1 hk) hn.1
    rw [this]
    exact aget_none h s ps hn.2
theorem out_same (c : List G_Club) (day : Int) (l : List G_Member) (hp : l.Pairwise fun a b => Lib.compareBytes a.f_Call b.f_Call ≤ 0) :
    (sortI Lib.compareBytes ((lastM day [] l).map (·.1))).filter (fun s => predO c ((aget keq_string s (lastM day [] l)).getD zM)) = outQ (fun s => predO c (lineF day s zM l)) [] l := by
  obtain ⟨hfl, _⟩ := lastM_fine day l l [] (fun x h => h) ⟨.nil, fun p h => (by cases h), fun p h => (by cases h)⟩
  obtain ⟨q1, q2, q3, _⟩ := outQ_facts (fun s => predO c (lineF day s zM l)) l [] .nil .nil hp (fun a h => by cases h)
  have hll : ∀ s, (aget keq_string s (lastM day [] l)).getD zM = lineF day s zM l := fun s => line_last day s l []
  have hP : (fun s => predO c ((aget keq_string s (lastM day [] l)).getD zM)) = fun s => predO c (lineF day s zM l) := funext fun s => by rw [hll]
  rw [hP]
  have hn : ((sortI Lib.compareBytes ((lastM day [] l).map (·.1))).filter fun s => predO c (lineF day s zM l)).Nodup := (List.Sublist.nodup List.filter_sublist ((sortI_perm _ _).nodup_iff.2 hfl.one))
  refine sorted_one ords_cb (fun x _ y _ h => cb_eq_zero.1 h) ((List.perm_ext_iff_of_nodup hn q1).2 fun s => ?_) ((sortI_sorted (ords_cb.pre (fun _ => True)) _ (fun _ _ => trivial)).sublist List.filter_sublist) q2
  rw [List.mem_filter, sortI_mem, q3]
  constructor
  · rintro ⟨h1, h2⟩
    obtain ⟨p, hpm, rfl⟩ := List.mem_map.1 h1
    exact .inr ⟨p.2, hfl.mem p hpm, hfl.key p hpm, h2⟩
  · rintro (h | ⟨x, hx, e, h2⟩)
    · cases h
    · refine ⟨Classical.byContradiction fun hn => ?_, h2⟩
      have h3 := aget_none keq_string_is s _ hn
      have h4 := hll s
      rw [h3] at h4
      rw [← h4] at h2
      cases h2
theorem club_Outside_is {c : List G_Club} (hc : ∀ x ∈ c, FineU x) (hcl : c.length ≤ 100000) {d : List G_Member} (hf : ∀ m ∈ d, FineM m) (hl : d.length ≤ 1000) (day : Int) (R : Type) (k : List (List UInt8) → Int → Option R) :
    club_Outside c d day k = bif faultOut c d day != 0 then k [] (faultOut c d day) else k (outQ (fun s => predO c (lineF day s zM d)) [] d) 0 := by
  have hNN := NN_ok
  simp only [club_Outside, club_Outside_, I_club_Outside, club_CheckMembers_is hc hcl hf (show d.length ≤ 100000 by omega), club_isDayM_is, club_last_is (show d.length ≤ 100000 by omega), faultOut, orL]
  cases h1 : faultM c d != 0 with
  | true => simp only [cond_true, h1]
  | false =>
    have z : faultM c d = 0 := by simpa using h1
    obtain ⟨zu, zm⟩ := faultM_zero z
    have hs := (faultU_sorted zu).1
    have hp := (faultMs_calls c d none zm).2
    simp only [cond_false]
    cases inB day 0 4000 with
    | false => rfl
    | true =>
      obtain ⟨hfl, hlen⟩ := lastM_fine day d d [] (fun x h => h) ⟨.nil, fun p h => (by cases h), fun p h => (by cases h)⟩
      simp only [List.length_nil] at hlen
      have hos := out_same c day d hp
      generalize hm : lastM day [] d = m at hfl hlen hos
      have hkl : ∀ s ∈ m.map (·.1), s.length ≤ 100000 := fun s hs' => by
        obtain ⟨p, hpm, rfl⟩ := List.mem_map.1 hs'
        have h2 := (hf _ (hfl.mem p hpm)).call
        rw [hfl.key p hpm] at h2
        exact Nat.le_trans (callsL_len _ h2) (by omega)
      have hk : srtK9 (List.map (fun p => p.1) m) = some (sortI Lib.compareBytes (m.map (·.1))) := srtK9M_is (m.map (·.1)) hfl.one hkl (by rw [List.length_map]; omega)
      have hlk : (sortI Lib.compareBytes (m.map (·.1))).length ≤ 100000 := by rw [sortI_length, List.length_map]; omega
      have e9 : ∀ e0 : List (List UInt8) → Option R, club_Outside_L9 I_club_Outside NN c ((sortI Lib.compareBytes (m.map (·.1))).length : Int) 0 m (sortI Lib.compareBytes (m.map (·.1))) [] e0 = e0 ((sortI Lib.compareBytes (m.map (·.1))).filter fun s => predO c ((aget keq_string s m).getD zM)) := fun e0 => by
        have h := club_Outside_loop hc hs (by omega) m (sortI Lib.compareBytes (m.map (·.1))) hlk _ NN 0 [] rfl (by rw [List.drop_zero]; omega) (by simp) R e0
        rw [List.drop_zero, List.nil_append] at h
        exact h
      simp only [I_club_Outside] at e9
      simp only [Bool.not_true, cond_false, hk, keys_, e9, hos]
      rfl
theorem Q_OutsideOf_is {c : List G_Club} (hc : ∀ x ∈ c, FineU x) (hcl : c.length ≤ 100000) {d : List G_Member} (hl : d.length ≤ 100000) (day : Int) (R : Type) (k : List (List UInt8) → Option R) : Q_OutsideOf c d day k = k (outQ (fun s => predO c (lineF day s zM d)) [] d) := by
  have h : ∀ e0 : List (List UInt8) → Option R, Q_OutsideOf_L3 I_Q_OutsideOf I_Q_OutsideOf.N c d day d (d.length : Int) 0 [] e0 = e0 (outQ (fun s => predO c (lineF day s zM d)) [] d) := fun e0 => Q_OutsideOf_loop hc hcl d hl day d I_Q_OutsideOf.N 0 [] rfl (show d.length < NN by have := NN_ok; omega) (by simp) R e0
  simp only [Q_OutsideOf, Q_OutsideOf_, h]
theorem dayFaultM_is (d : Int) (R : Type) (k : Int → Option R) : law_dayFault d k = k (bif inB d 0 4000 then 0 else 1) := by
  simp only [law_dayFault, law_dayFault_, I_law_dayFault, law_when, law_when_]
  by_cases h : d < 0
  · have : inB d 0 4000 = false := by
      cases hb : inB d 0 4000 with
      | false => rfl
      | true => have := inB_is.1 hb; omega
    rw [decide_eq_true h, this]; rfl
  · rw [decide_eq_false h]
    by_cases h2 : d > 4000
    · have : inB d 0 4000 = false := by
        cases hb : inB d 0 4000 with
        | false => rfl
        | true => have := inB_is.1 hb; omega
      rw [decide_eq_true h2, this]; rfl
    · rw [decide_eq_false h2, inB_is.2 ⟨by omega, by omega⟩]; rfl
theorem law_formFault_is {s : List UInt8} (h : s ∈ callsL) (R : Type) (k : Int → Option R) : law_formFault s k = k (bif callB s then 0 else 3) := by
  simp only [law_formFault, law_formFault_, I_law_formFault, Q_Call_is h, law_when, law_when_]
  cases callB s <;> rfl
theorem equalS_is {l : List (List UInt8)} (hl : l.length ≤ 1000000) (R : Type) (k : Bool → Option R) : slices_Equal__string l l k = k true := by
  rw [li_slices_Equal__string]; exact sEqual_same (by have := NN_ok; omega) (by have := NN_ok; omega) (fun x => by simp) k
theorem equalSn_is (R : Type) (k : Bool → Option R) : slices_Equal__string_n1 [] k = k true := by
  rw [li_slices_Equal__string_n1]; exact sEqualN_nil (by have := NN_ok; omega) k
theorem law_MembersInside_true (l : List Int) (R : Type) (k : Bool → Option R) : law_MembersInside l k = k true := by
  obtain ⟨c, s1, z1, lc, hc, e1⟩ := Stream_ClubList_gives (sOk0 l) (by omega)
  obtain ⟨d, s2, z2, ld, hd, e2⟩ := Stream_Members_gives z1 (by omega) hc (show c.length ≤ 100 by omega)
  obtain ⟨sg, s3, hsg, z3, e3⟩ := Stream_ACall_gives z2 (by omega)
  obtain ⟨day, s4, _, z4, e4⟩ := Stream_Pick_gives z3 [0, 2, 4, 9, -1, 4001] (by omega) (by simp) (by simp)
  have hcl : c.length ≤ 100000 := by omega
  have hdl : d.length ≤ 100000 := by omega
  have hol : (outQ (fun s => predO c (lineF day s zM d)) [] d).length ≤ 1000000 := by
    have : ∀ (xs : List G_Member) (acc : List (List UInt8)), (outQ (fun s => predO c (lineF day s zM d)) acc xs).length ≤ acc.length + xs.length := by
      intro xs
      induction xs with
      | nil => intro acc; simp [outQ]
      | cons x xs ih =>
        intro acc
        unfold outQ
        have h1 := ih acc
        have h2 := ih (acc ++ [x.f_Call])
        simp only [List.length_append, List.length_singleton] at h2
        cases predO c (lineF day x.f_Call zM d) with
        | false => simp only [cond_false, List.length_cons]; omega
        | true =>
          cases !(acc.any fun y => y == x.f_Call) with
          | false => simp only [cond_true, cond_false, List.length_cons]; omega
          | true => simp only [cond_true, List.length_cons]; omega
    have := this d []
    simp only [List.length_nil] at this
    omega
  simp only [law_MembersInside, law_MembersInside_, I_law_MembersInside, e1, e2, e3, e4, club_Of_is hc hcl hd hdl hsg, club_Outside_is hc hcl hd (show d.length ≤ 1000 by omega), Q_MembersFault_is hc hcl hd hdl, law_formFault_is hsg, dayFaultM_is,
    law_errs_is [faultM c d, bif callB sg then 0 else 3, bif inB day 0 4000 then 0 else 1] (by simp), law_errs_is [faultM c d, bif inB day 0 4000 then 0 else 1] (by simp)]
  have f1 : orL [faultM c d, bif callB sg then 0 else 3, bif inB day 0 4000 then 0 else 1] = faultOf c d sg day := rfl
  have f2 : orL [faultM c d, bif inB day 0 4000 then 0 else 1] = faultOut c d day := rfl
  simp only [f1, f2]
  cases h1 : faultOf c d sg day != 0 with
  | true =>
    have g1 : (faultOf c d sg day == 0) = false := by simpa using h1
    cases h2 : faultOut c d day != 0 with
    | true =>
      have g2 : (faultOut c d day == 0) = false := by simpa using h2
      simp only [cond_true, g1, g2, cond_false, club_CheckClubs_is hc hcl, Q_ClubsFault_is hc hcl, club_CheckMembers_is hc hcl hd hdl, beq_self_eq_true, equalSn_is, law_joinedClub_is]
    | false =>
      have g2 : faultOut c d day = 0 := by simpa using h2
      simp only [cond_true, g1, g2, cond_false, beq_self_eq_true, Q_OutsideOf_is hc hcl hdl, club_CheckClubs_is hc hcl, Q_ClubsFault_is hc hcl, club_CheckMembers_is hc hcl hd hdl, equalS_is hol, law_joinedClub_is]
  | false =>
    have g1 : faultOf c d sg day = 0 := by simpa using h1
    cases h2 : faultOut c d day != 0 with
    | true =>
      have g2 : (faultOut c d day == 0) = false := by simpa using h2
      simp only [cond_true, g1, g2, cond_false, beq_self_eq_true, Q_ClubFor_is hc hcl hdl hsg, club_CheckClubs_is hc hcl, Q_ClubsFault_is hc hcl, club_CheckMembers_is hc hcl hd hdl, equalSn_is, law_joinedClub_is]
    | false =>
      have g2 : faultOut c d day = 0 := by simpa using h2
      simp only [cond_true, g1, g2, cond_false, beq_self_eq_true, Q_ClubFor_is hc hcl hdl hsg, Q_OutsideOf_is hc hcl hdl, club_CheckClubs_is hc hcl, Q_ClubsFault_is hc hcl, club_CheckMembers_is hc hcl hd hdl, equalS_is hol, law_joinedClub_is]
end Go.Am
