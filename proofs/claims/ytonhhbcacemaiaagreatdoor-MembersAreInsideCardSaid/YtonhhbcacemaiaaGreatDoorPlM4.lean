/- The plain law, in Lean alone: M4. No condition: lemmas for the claim. -/
import Derived.Test.YtonhhbcacemaiaaGreatDoorPlM1
import Derived.Test.YtonhhbcacemaiaaGreatDoorPlB4
set_option linter.unusedVariables false
set_option linter.unusedSectionVars false
set_option linter.unusedSimpArgs false
set_option maxRecDepth 100000
namespace Go.Am
open Go Go.Proofs
variable [Fuel]
theorem u64_small {x : Int} (h1 : 0 ≤ x) (h2 : x ≤ 9223372036854775807) : IntKind.u64.wrap x = x := by
 have : IntKind.u64.wrap x = x % 18446744073709551616 := rfl
 rw [this]
 exact Int.emod_eq_of_lt h1 (by omega)
theorem mid_is {i j : Nat} (h : i + j < 4611686018427387904) : w64 (Int.fdiv (IntKind.u64.wrap (w64 ((i : Int) + (j : Int)))) (2 ^ (1 : Int).toNat)) = (((i + j) / 2 : Nat) : Int) := by
 have h2 : ((2 : Int) ^ (1 : Int).toNat) = 2 := rfl
 have h1 : w64 ((i : Int) + (j : Int)) = (i : Int) + (j : Int) := w64_eq (by omega) (by omega)
 rw [h1, u64_small (by omega) (by omega), h2]
 have h3 : Int.fdiv ((i : Int) + (j : Int)) 2 = (((i + j) / 2 : Nat) : Int) := by
  rw [Int.fdiv_eq_ediv_of_nonneg _ (by omega)]
  omega
 rw [h3, w64_eq (by omega) (by omega)]
theorem z26z_is (x : G_Club) (key : List UInt8) (R : Type) (k : Int → Option R) : z26z x key k = k (Lib.compareBytes x.f_Key key) := by
 simp only [z26z, z26z_, I_z26z, strings_Compare_is]
theorem sorted_at {c : List G_Club} (hs : SortedU c) {i j : Nat} {x y : G_Club} (hij : i < j) (hx : c[i]? = some x) (hy : c[j]? = some y) : Lib.compareBytes x.f_Key y.f_Key < 0 := by
 have hi : i < c.length := (List.getElem?_eq_some_iff.1 hx).1
 have hj : j < c.length := (List.getElem?_eq_some_iff.1 hy).1
 have := List.pairwise_iff_getElem.1 hs i j hi hj hij
 rw [List.getElem?_eq_getElem hi] at hx
 rw [List.getElem?_eq_getElem hj] at hy
 cases hx; cases hy
 exact this
theorem bs_loop (c : List G_Club) (hs : SortedU c) (hl : c.length ≤ 1000000) (key : List UInt8) (v5 : Int) : ∀ (n lo hi : Nat), lo ≤ hi → hi ≤ c.length → hi - lo < n → (∀ j x, j < lo → c[j]? = some x → Lib.compareBytes x.f_Key key < 0) → (∀ j x, hi ≤ j → c[j]? = some x → 0 ≤ Lib.compareBytes x.f_Key key) →
  ∃ p : Nat, p ≤ c.length ∧ (∀ j x, j < p → c[j]? = some x → Lib.compareBytes x.f_Key key < 0) ∧ (∀ j x, p ≤ j → c[j]? = some x → 0 ≤ Lib.compareBytes x.f_Key key) ∧
   ∀ (R : Type) (e0 : List G_Club → List UInt8 → Int → Int → Option R), z1z_L3 I_z1z n c key v5 (lo : Int) (hi : Int) e0 = e0 c key v5 (p : Int)
 | 0, lo, hi, _, _, h, _, _ => by omega
 | n + 1, lo, hi, h1, h2, h3, h4, h5 => by
  by_cases hlt : lo < hi
  ·have hm : (lo + hi) / 2 < c.length := by omega
   have hg : c[(lo + hi) / 2]? = some c[(lo + hi) / 2] := List.getElem?_eq_getElem hm
   have hmid := mid_is (show lo + hi < 4611686018427387904 by omega)
   have d0 : decide ((lo : Int) < (hi : Int)) = true := decide_eq_true (by omega)
   by_cases hc : Lib.compareBytes c[(lo + hi) / 2].f_Key key < 0
   ·obtain ⟨p, p1, p2, p3, p4⟩ := bs_loop c hs hl key v5 n ((lo + hi) / 2 + 1) hi (by omega) h2 (by omega) (fun j x hj hx => by
     rcases Nat.lt_or_eq_of_le (Nat.le_of_lt_succ hj) with hj | rfl
     ·exact cb_lt_trans (sorted_at hs hj hx hg) hc
     ·rw [hg] at hx; cases hx; exact hc) h5
    refine ⟨p, p1, p2, p3, fun R e0 => ?_⟩
    have p4' := p4 R e0
    simp only [I_z1z] at p4'
    rw [z1z_L3, d0, cond_true, hmid, get_nat hg]
    simp only [I_z1z, z26z_is, decide_eq_true hc, cond_true, w64_succ (show (lo + hi) / 2 < 4611686018427387904 by omega), p4']
   ·obtain ⟨p, p1, p2, p3, p4⟩ := bs_loop c hs hl key v5 n lo ((lo + hi) / 2) (by omega) (by omega) (by omega) h4 (fun j x hj hx => by
     rcases Nat.lt_or_eq_of_le hj with hj | rfl
     ·have := sorted_at hs hj hg hx
      apply Classical.byContradiction
      intro hn
      exact hc (cb_lt_trans this (by omega))
     ·rw [hg] at hx; cases hx; omega)
    refine ⟨p, p1, p2, p3, fun R e0 => ?_⟩
    have p4' := p4 R e0
    simp only [I_z1z] at p4'
    rw [z1z_L3, d0, cond_true, hmid, get_nat hg]
    simp only [I_z1z, z26z_is, decide_eq_false hc, cond_false, p4']
  ·obtain rfl : lo = hi := by omega
   refine ⟨lo, by omega, h4, h5, fun R e0 => ?_⟩
   rw [z1z_L3, decide_eq_false (by omega)]; rfl
def hasKey (c : List G_Club) (key : List UInt8) : Bool := c.any fun x => x.f_Key == key
theorem clubAt_gives {c : List G_Club} (hs : SortedU c) (hl : c.length ≤ 1000000) (key : List UInt8) : ∃ p : Nat, (∀ (R : Type) (k : Int → Bool → Option R), z18z c key k = k (p : Int) (hasKey c key)) ∧ (hasKey c key = true → ∃ x, c[p]? = some x ∧ x.f_Key = key) := by
 obtain ⟨p, p1, p2, p3, p4⟩ := bs_loop c hs hl key (c.length : Int) NN 0 c.length (by omega) (by omega) (by have := NN_ok; omega) (fun j x h => by omega) (fun j x h hx => by have := (List.getElem?_eq_some_iff.1 hx).1; omega)
 have p4' : ∀ (R : Type) (e0 : List G_Club → List UInt8 → Int → Int → Option R), z1z_L3 I_z1z NN c key (c.length : Int) 0 (c.length : Int) e0 = e0 c key (c.length : Int) (p : Int) := p4
 have hat : ∀ j x, c[j]? = some x → x.f_Key = key → j = p := by
  intro j x hx he
  have h0 : Lib.compareBytes x.f_Key key = 0 := cb_eq_zero.2 he
  rcases Nat.lt_trichotomy j p with h | h | h
  ·have := p2 j x h hx; omega
  ·exact h
  ·have hj := (List.getElem?_eq_some_iff.1 hx).1
   have hg : c[p]? = some c[p] := List.getElem?_eq_getElem (by omega)
   have h1 := p3 p _ (Nat.le_refl _) hg
   have h2 := sorted_at hs h hg hx
   rw [he] at h2
   omega
 simp only [I_z1z] at p4'
 by_cases hp : p < c.length
 ·have hg : c[p]? = some c[p] := List.getElem?_eq_getElem hp
  have hk : hasKey c key = (Lib.compareBytes c[p].f_Key key == 0) := by
   rw [Bool.eq_iff_iff, beq_iff_eq, cb_eq_zero]
   unfold hasKey
   rw [List.any_eq_true]
   constructor
   ·rintro ⟨x, hx, he⟩
    obtain ⟨j, hj⟩ := List.mem_iff_getElem?.1 hx
    have he : x.f_Key = key := by simpa using he
    have := hat j x hj he
    subst this
    rw [hg] at hj
    cases hj
    exact he
   ·intro he
    exact ⟨_, List.getElem_mem hp, by simpa using he⟩
  refine ⟨p, fun R k => ?_, fun h => ⟨_, hg, ?_⟩⟩
  ·simp only [z18z, z18z_, I_z18z, z1z, z1z_, I_z1z, p4', decide_eq_true (show (p : Int) < (c.length : Int) by omega), cond_true, get_nat hg, z26z_is, hk]
  ·rw [hk] at h; exact cb_eq_zero.1 (by simpa using h)
 ·have hk : hasKey c key = false := by
   cases h : hasKey c key with
   | false => rfl
   | true =>
    obtain ⟨x, hx, he⟩ := List.any_eq_true.1 h
    obtain ⟨j, hj⟩ := List.mem_iff_getElem?.1 hx
    have := hat j x hj (by simpa using he)
    have := (List.getElem?_eq_some_iff.1 hj).1
    omega
  refine ⟨p, fun R k => ?_, fun h => by rw [hk] at h; cases h⟩
  simp only [z18z, z18z_, I_z18z, z1z, z1z_, I_z1z, p4', decide_eq_false (show ¬ (p : Int) < (c.length : Int) by omega), cond_false, hk]
noncomputable def hasP (a b : List UInt8) : Bool := bif decide ((a.length : Int) ≥ (b.length : Int)) then a.take b.length == b else false
theorem z62z_is (a b : List UInt8) (R : Type) (k : Bool → Option R) : z62z a b k = k (hasP a b) := by
 simp only [z62z, z62z_, I_z62z, z78z, z78z_, hasP]
 by_cases h : (a.length : Int) ≥ (b.length : Int)
 ·rw [decide_eq_true h, decide_eq_true (show (0 : Int) ≤ (b.length : Int) by omega)]
  simp
 ·rw [decide_eq_false h]; rfl
noncomputable def anySq (m : G_Member) (l : List (List UInt8)) : Bool := l.any fun q => hasP m.f_Locator q
noncomputable def insB (c : List G_Club) (m : G_Member) : Bool := c.any fun x => bif x.f_Key == m.f_Club then anySq m x.f_Squares else false
theorem club_any_is (m : G_Member) {l : List (List UInt8)} (hl : l.length ≤ 100000) (R : Type) (k : Bool → G_Member → Option R) : z31z l m k = k (anySq m l) m := by
 simp only [z31z, z31z_, I_z31z, li_z7z]
 rw [sIndexF_is (@z13z _) (fun q => hasP m.f_Locator q) m l (fun x _ R k => by simp only [z13z, z13z_, I_z13z, z62z_is]) (by have := NN_ok; omega) (by have := NN_ok; omega), idxI_ge]
 rfl
theorem insB_at {c : List G_Club} (hs : SortedU c) {m : G_Member} {x : G_Club} (hx : x ∈ c) (he : x.f_Key = m.f_Club) : insB c m = anySq m x.f_Squares := by
 rw [Bool.eq_iff_iff]
 unfold insB
 rw [List.any_eq_true]
 constructor
 ·rintro ⟨y, hy, h⟩
  cases hk : y.f_Key == m.f_Club with
  | false => rw [hk] at h; cases h
  | true =>
   rw [hk] at h
   have hyk : y.f_Key = m.f_Club := by simpa using hk
   obtain ⟨i, hi⟩ := List.mem_iff_getElem?.1 hx
   obtain ⟨j, hj⟩ := List.mem_iff_getElem?.1 hy
   have z : ∀ a b : List UInt8, a = b → Lib.compareBytes a b = 0 := fun a b e => cb_eq_zero.2 e
   rcases Nat.lt_trichotomy i j with hij | rfl | hij
   ·have := sorted_at hs hij hi hj
    rw [z _ _ (he.trans hyk.symm)] at this; omega
   ·rw [hi] at hj; cases hj; exact h
   ·have := sorted_at hs hij hj hi
    rw [z _ _ (hyk.trans he.symm)] at this; omega
 ·intro h
  exact ⟨x, hx, by rw [he, beq_self_eq_true]; exact h⟩
theorem z9z_is {c : List G_Club} (hf : ∀ x ∈ c, FineU x) (hs : SortedU c) (hl : c.length ≤ 1000000) (m : G_Member) (R : Type) (k : Bool → Option R) : z9z c m k = k (insB c m) := by
 obtain ⟨p, p1, p2⟩ := clubAt_gives hs hl m.f_Club
 simp only [z9z, z9z_, I_z9z, p1]
 cases h : hasKey c m.f_Club with
 | true =>
  obtain ⟨x, hx, he⟩ := p2 h
  have hm := List.mem_of_getElem? hx
  have hlen := (hf x hm).len
  simp only [cond_true, get_nat hx, club_any_is m (show x.f_Squares.length ≤ 100000 by omega), insB_at hs hm he]
 | false =>
  have : insB c m = false := by
   cases hi : insB c m with
   | false => rfl
   | true =>
    obtain ⟨y, hy, h2⟩ := List.any_eq_true.1 hi
    cases hk : y.f_Key == m.f_Club with
    | false => rw [hk] at h2; cases h2
    | true =>
     have : hasKey c m.f_Club = true := List.any_eq_true.2 ⟨y, hy, hk⟩
     rw [h] at this; cases this
  rw [this]; rfl
theorem club_isDayM_is (d : Int) (R : Type) (k : Bool → Option R) : club_isDay d k = k (inB d 0 4000) := by
 simp only [club_isDay, club_isDay_, I_club_isDay, z52z_is, Bool.not_not]
def cmpM (x y : G_Member) : Int := orL [Lib.compareBytes x.f_Call y.f_Call, cmpI x.f_Day y.f_Day]
noncomputable def chkM (c : List G_Club) (m : G_Member) : Int := bif !callB m.f_Call then 3 else bif !(baseB m.f_Call == m.f_Call) then 3 else bif (bif !(m.f_Club == []) then !hasKey c m.f_Club else false) then 8 else bif !inB m.f_Day 0 4000 then 1 else bif !locB m.f_Locator then 3 else 0
noncomputable def lowM (p : Option G_Member) (m : G_Member) : Int := match p with | none => 0 | some q => bif decide (cmpM q m ≥ 0) then 7 else 0
noncomputable def faultMs (c : List G_Club) : Option G_Member → List G_Member → Int
 | _, [] => 0
 | p, m :: ms => bif chkM c m != 0 then chkM c m else bif lowM p m != 0 then lowM p m else faultMs c (some m) ms
theorem z72z_is (c : List G_Club) (hs : SortedU c) (hcl : c.length ≤ 1000000) (d : List G_Member) (hf : ∀ m ∈ d, FineM m) (hl : d.length ≤ 100000) {m : G_Member} {ms : List G_Member} {i : Nat} {p : Option G_Member} (h : d.drop i = m :: ms) (hp : PrevAt d i p) (R : Type) (k : Int → Option R) :
  z72z c d (i : Int) k = k (bif chkM c m != 0 then chkM c m else lowM p m) := by
 have fm := hf m (mem_drop h)
 obtain ⟨q, q1, q2⟩ := parts_gives fm.call
 obtain ⟨j, j1, _⟩ := clubAt_gives hs hcl m.f_Club
 have tail : (bif decide ((i : Int) > 0) then get_ d (w64 ((i : Int) - 1)) fun x11 => get_ d (w64 ((i : Int) - 1)) fun x12 => k (bif decide (orL [Lib.compareBytes x11.f_Call m.f_Call, cmpI x12.f_Day m.f_Day] ≥ 0) then 7 else 0) else k 0) = k (lowM p m) := by
  cases p with
  | none => rw [decide_eq_false (show ¬ ((i : Int) > 0) by unfold PrevAt at hp; omega)]; rfl
  | some q =>
   obtain ⟨h0, ys, hq⟩ := hp
   rw [decide_eq_true (show ((i : Int) > 0) by omega), cond_true, prev_drop hq h0 (by omega), prev_drop hq h0 (by omega)]
   rfl
 have hor : ∀ (x11 x12 : G_Member), (z34z [Lib.compareBytes x11.f_Call m.f_Call, cmpI x12.f_Day m.f_Day] (fun r15 => bif decide (r15 ≥ 0) then k 7 else k 0)) = k (bif decide (orL [Lib.compareBytes x11.f_Call m.f_Call, cmpI x12.f_Day m.f_Day] ≥ 0) then 7 else 0) := fun x y => by
  rw [z34z_is _ (by simp)]
  cases decide (orL [Lib.compareBytes x.f_Call m.f_Call, cmpI y.f_Day m.f_Day] ≥ 0) <;> rfl
 simp only [z72z, z72z_, I_z72z, get_drop h, q2, q1, j1, club_isDayM_is, z68z_is fm.loc, strings_Compare_is, z35z_is, hor, tail, chkM]
 cases callB m.f_Call <;> cases baseB m.f_Call == m.f_Call <;> cases m.f_Club == [] <;> cases hasKey c m.f_Club <;> cases inB m.f_Day 0 4000 <;> cases locB m.f_Locator <;> rfl
theorem z28z_loop (c : List G_Club) (hs : SortedU c) (hcl : c.length ≤ 1000000) (d : List G_Member) (hf : ∀ m ∈ d, FineM m) (hl : d.length ≤ 100000) : ∀ (xs : List G_Member) (n i : Nat) (p : Option G_Member), d.drop i = xs → PrevAt d i p → xs.length < n → ∀ (R : Type) (k : Int → Option R),
  z28z_L7 I_z28z n c d (d.length : Int) (i : Int) k (k 0) = k (faultMs c p xs)
 | _, 0, _, _, _, _, h, _, _ => by omega
 | [], n + 1, i, p, h, _, _, _, _ => by rw [z28z_L7, ge_drop h]; rfl
 | m :: ms, n + 1, i, p, h, hp, hn, R, k => by
  have h' := drop_cons h
  have ih := z28z_loop c hs hcl d hf hl ms n (i + 1) (some m) h'.2.2.1 (prevAt_next h) (by simp at hn; omega) R k
  rw [z28z_L7, lt_drop h]
  simp only [I_z28z] at ih
  simp only [cond_true, I_z28z, z72z_is c hs hcl d hf hl h hp, faultMs, w64_succ (show i < 4611686018427387904 by omega), ih]
  cases hq : chkM c m != 0 with
  | true => simp only [cond_true, hq]
  | false =>
   simp only [cond_false]
   cases lowM p m != 0 <;> rfl
theorem cmpM_is (q m : G_Member) {R : Type} (a b : Option R) : (bif Op.bytesLess m.f_Call q.f_Call then a else bif m.f_Call == q.f_Call then (bif decide (m.f_Day ≤ q.f_Day) then a else b) else b) = bif decide (cmpM q m ≥ 0) then a else b := by
 have hc : cmpM q m = bif Lib.compareBytes q.f_Call m.f_Call != 0 then Lib.compareBytes q.f_Call m.f_Call else bif cmpI q.f_Day m.f_Day != 0 then cmpI q.f_Day m.f_Day else 0 := rfl
 rw [bytesLess_is]
 have han := cb_anti q.f_Call m.f_Call
 by_cases h0 : Lib.compareBytes q.f_Call m.f_Call = 0
 ·have he := cb_zero _ _ h0
  rw [h0] at hc han
  rw [he, cb_self, beq_self_eq_true, decide_eq_false (show ¬ (0 : Int) < 0 by omega)]
  simp only [cond_false, cond_true]
  have hd : decide (cmpM q m ≥ 0) = decide (m.f_Day ≤ q.f_Day) := by
   rw [hc, decide_eq_decide]
   simp only [bne_self_eq_false, cond_false]
   unfold cmpI
   by_cases h1 : q.f_Day < m.f_Day
   ·rw [decide_eq_true h1]; simp; omega
   ·rw [decide_eq_false h1]
    by_cases h2 : q.f_Day > m.f_Day
    ·rw [decide_eq_true h2]; simp; omega
    ·rw [decide_eq_false h2]; simp; omega
  rw [hd]
 ·have hne : (Lib.compareBytes q.f_Call m.f_Call != 0) = true := by simpa using h0
  rw [hne, cond_true] at hc
  have hneq : (m.f_Call == q.f_Call) = false := by
   rw [beq_eq_false_iff_ne]
   intro e
   rw [e, cb_self] at h0
   exact h0 rfl
  rw [hneq, hc]
  by_cases h1 : Lib.compareBytes m.f_Call q.f_Call < 0
  ·rw [decide_eq_true h1, decide_eq_true (show Lib.compareBytes q.f_Call m.f_Call ≥ 0 by omega)]; rfl
  ·rw [decide_eq_false h1, decide_eq_false (show ¬ Lib.compareBytes q.f_Call m.f_Call ≥ 0 by omega)]; rfl
theorem Q_hasKey_is (c : List G_Club) (hl : c.length ≤ 100000) (m : G_Member) (R : Type) (k : Bool → G_Member → Option R) : z30z c m k = k (hasKey c m.f_Club) m := by
 simp only [z30z, z30z_, I_z30z, li_z8z]
 rw [sIndexF_is (@z14z _) (fun x => x.f_Key == m.f_Club) m c (fun x _ R k => rfl) (by have := NN_ok; omega) (by have := NN_ok; omega), idxI_ge]
 rfl
theorem z6z_loop (c : List G_Club) (hcl : c.length ≤ 100000) (d : List G_Member) (hf : ∀ m ∈ d, FineM m) (hl : d.length ≤ 100000) : ∀ (xs : List G_Member) (n i : Nat) (p : Option G_Member), d.drop i = xs → PrevAt d i p → xs.length < n → ∀ (R : Type) (k : Int → Option R),
  z6z_L7 I_z6z n c d d (d.length : Int) (i : Int) k (k 0) = k (faultMs c p xs)
 | _, 0, _, _, _, _, h, _, _ => by omega
 | [], n + 1, i, p, h, _, _, _, _ => by rw [z6z_L7, ge_drop h]; rfl
 | m :: ms, n + 1, i, p, h, hp, hn, R, k => by
  have h' := drop_cons h
  have fm := hf m (mem_drop h)
  have ih := z6z_loop c hcl d hf hl ms n (i + 1) (some m) h'.2.2.1 (prevAt_next h) (by simp at hn; omega) R k
  have tail : (bif decide ((i : Int) > 0) then get_ d (w64 ((i : Int) - 1)) fun x36 => bif Op.bytesLess m.f_Call x36.f_Call then k 7 else get_ d (w64 ((i : Int) - 1)) fun x37 => bif m.f_Call == x37.f_Call then (get_ d (w64 ((i : Int) - 1)) fun x38 => bif decide (m.f_Day ≤ x38.f_Day) then k 7 else k (faultMs c (some m) ms)) else k (faultMs c (some m) ms) else k (faultMs c (some m) ms)) =
    k (bif lowM p m != 0 then lowM p m else faultMs c (some m) ms) := by
   cases p with
   | none => rw [decide_eq_false (show ¬ ((i : Int) > 0) by unfold PrevAt at hp; omega)]; rfl
   | some q =>
    obtain ⟨h0, ys, hq⟩ := hp
    rw [decide_eq_true (show ((i : Int) > 0) by omega), cond_true]
    simp only [prev_drop hq h0 (show d.length < 4611686018427387904 by omega), cmpM_is, lowM]
    cases decide (cmpM q m ≥ 0) <;> rfl
  rw [z6z_L7, lt_drop h]
  simp only [I_z6z] at ih
  simp only [cond_true, get_drop h, I_z6z, Q_Call_is fm.call, Q_BaseOf_is fm.call, Q_hasKey_is c hcl, Q_in_is, Q_locator_is fm.loc, faultMs, chkM, w64_succ (show i < 4611686018427387904 by omega), ih, tail]
  cases callB m.f_Call <;> cases baseB m.f_Call == m.f_Call <;> cases m.f_Club == [] <;> cases hasKey c m.f_Club <;> cases inB m.f_Day 0 4000 <;> cases locB m.f_Locator <;> rfl
noncomputable def faultM (c : List G_Club) (d : List G_Member) : Int := bif faultU c != 0 then faultU c else bif decide ((d.length : Int) > 1000) then 2 else faultMs c none d
theorem z28z_is {c : List G_Club} (hc : ∀ x ∈ c, FineU x) (hcl : c.length ≤ 100000) {d : List G_Member} (hf : ∀ m ∈ d, FineM m) (hl : d.length ≤ 100000) (R : Type) (k : Int → Option R) : z28z c d k = k (faultM c d) := by
 simp only [z28z, z28z_, I_z28z, z39z_is hc hcl, faultM]
 cases h1 : faultU c != 0 with
 | true => simp only [cond_true]
 | false =>
  have z : faultU c = 0 := by simpa using h1
  have h : z28z_L7 I_z28z NN c d (d.length : Int) 0 k (k 0) = k (faultMs c none d) := z28z_loop c (faultU_sorted z).1 (by omega) d hf hl d NN 0 none rfl rfl (by have := NN_ok; omega) R k
  simp only [I_z28z] at h
  simp only [cond_false, h]
  cases decide ((d.length : Int) > 1000) <;> rfl
theorem z6z_is {c : List G_Club} (hc : ∀ x ∈ c, FineU x) (hcl : c.length ≤ 100000) {d : List G_Member} (hf : ∀ m ∈ d, FineM m) (hl : d.length ≤ 100000) (R : Type) (k : Int → Option R) : z6z c d k = k (faultM c d) := by
 simp only [z6z, z6z_, I_z6z, z29z_is hc hcl, faultM]
 cases h1 : faultU c != 0 with
 | true => simp only [cond_true]
 | false =>
  have h : z6z_L7 I_z6z NN c d d (d.length : Int) 0 k (k 0) = k (faultMs c none d) := z6z_loop c hcl d hf hl d NN 0 none rfl rfl (by have := NN_ok; omega) R k
  simp only [I_z6z] at h
  simp only [cond_false, h]
  cases decide ((d.length : Int) > 1000) <;> rfl
end Go.Am
