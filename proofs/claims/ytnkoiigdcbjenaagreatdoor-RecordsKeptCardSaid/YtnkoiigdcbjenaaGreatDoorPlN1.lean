/- The plain law, in Lean alone: N1, N2. No condition: lemmas for the claim. -/
import Derived.Test.YtnkoiigdcbjenaaGreatDoorPlD3
import Derived.Test.YtnkoiigdcbjenaaGreatDoorPlC1
import Derived.Test.YtnkoiigdcbjenaaGreatDoorPlB4
set_option linter.unusedVariables false
set_option linter.unusedSectionVars false
set_option linter.unusedSimpArgs false
set_option maxRecDepth 100000
namespace Go.Am
open Go Go.Proofs
variable [Fuel]
def keysT : List (List UInt8) := [[97, 108, 108], [99, 111, 100, 101], [65]]
structure FineT (a : G_Try) : Prop where
  day : Mid a.f_Day
  call : a.f_Call ∈ callsL
  cat : a.f_Category ∈ keysT
  pts : Mid a.f_Points
theorem keysT_ok : keysT.all (fun s => okBool (kit_IsKey s some) (Q_Key s some)) = true := by
  obtain ⟨m, h, rfl⟩ := fuel_is ‹Fuel›
  kernel_rfl
theorem kit_IsKeyT_is {s : List UInt8} (h : s ∈ keysT) (R : Type) (k : Bool → Option R) : kit_IsKey s k = k (keyB s) :=
  nat_bool ok_kit_IsKey.na (args := [.d (.str s)]) (F := @kit_IsKey _ s) (fun _ _ => rfl) (okBool_is (List.all_eq_true.1 keysT_ok s h)).1 R k
theorem Q_KeyT_is {s : List UInt8} (h : s ∈ keysT) (R : Type) (k : Bool → Option R) : Q_Key s k = k (keyB s) :=
  nat_bool ok_Q_Key.na (args := [.d (.str s)]) (F := @Q_Key _ s) (fun _ _ => rfl) (okBool_is (List.all_eq_true.1 keysT_ok s h)).2 R k
def cmpT (x y : G_Try) : Int := orL [cmpI x.f_Day y.f_Day, Lib.compareBytes x.f_Category y.f_Category, Lib.compareBytes x.f_Call y.f_Call]
theorem slices_Compare_oneI (a b : Int) (R : Type) (k : Int → Option R) : slices_Compare__int [a] [b] k = k (cmpI a b) := by
  obtain ⟨m, e, hm⟩ := NN_succ
  obtain ⟨m, rfl⟩ : ∃ q, m = q + 2 := ⟨m - 2, by omega⟩
  have w1 : w64 (0 + 1) = ((1 : Nat) : Int) := w64_eq (by omega) (by omega)
  have a0 : ∀ {R : Type} (x : Int) (k : Int → Option R), get_ [x] 0 k = k x := fun x k => get_nat (i := 0) rfl k
  have d0 : decide ((0 : Int) < ([a].length : Int)) = true := rfl
  have d1 : decide (((1 : Nat) : Int) < ([a].length : Int)) = false := rfl
  have f0 : decide ((0 : Int) ≥ ([b].length : Int)) = false := rfl
  have f2 : decide (([a].length : Int) < ([b].length : Int)) = false := rfl
  simp only [slices_Compare__int, slices_Compare__int_]
  rw [show I_slices_Compare__int.N = m + 2 + 1 from e]
  simp only [slices_Compare__int_L2, d0, d1, f0, f2, w1, a0, I_slices_Compare__int, cond_true, cond_false, cmp_Compare__int_is]
  cases h1 : cmpI a b != 0 with
  | true => simp only [cond_true]
  | false =>
    have h2 : cmpI a b = 0 := by simpa using h1
    simp only [cond_false, h2]
theorem Stream_Tries_1_is (x y : G_Try) (R : Type) (k : Int → Option R) : Stream_Tries_1 x y k = k (cmpT x y) := by
  simp only [Stream_Tries_1, Stream_Tries_1_, I_Stream_Tries_1, slices_Compare_oneI, slices_Compare_two, cmpT]
  rw [ne_cmpI]
  cases h : cmpI x.f_Day y.f_Day != 0 with
  | true => simp only [cond_true, orL, h]
  | false => simp only [cond_false, orL, h]
theorem sortT_is {l : List G_Try} (hl : l.length ≤ 20) (R : Type) (k : List G_Try → Option R) : slices_SortStableFunc__Try_Stream_Tries_1 l k = k (sortI cmpT l) := by
  simp only [slices_SortStableFunc__Try_Stream_Tries_1, slices_SortStableFunc__Try_Stream_Tries_1_, I_slices_SortStableFunc__Try_Stream_Tries_1, li_slices_stableCmpFunc__Try_Stream_Tries_1]
  exact sSta_is cmpT (fun _ => True) (fun x y _ _ => Stream_Tries_1_is x y) l (fun _ _ => trivial) hl (by have := NN_ok; omega) (by have := NN_ok; omega) _ (fun l a b R k => by rw [li_slices_insertionSortCmpFunc__Try_Stream_Tries_1]) k
theorem Stream_Tries_loop (m : Nat) : ∀ (n i : Nat) (day : Int) (s : G_Stream) (out : List G_Try) (b : Int), m - i < n → i ≤ m → SOk (b + 20 * (i : Int)) s → b ≤ 1000000 → 0 ≤ day → day ≤ 2 * (i : Int) → out.length = i → (∀ c ∈ out, FineT c) → m ≤ 600 →
    ∃ (r : List G_Try) (s' : G_Stream), SOk (b + 20 * (m : Int)) s' ∧ r.length = m ∧ (∀ c ∈ r, FineT c) ∧ ∀ (R : Type) (e0 : G_Stream → List G_Try → Option R), Stream_Tries_L4 I_Stream_Tries n day (m : Int) (i : Int) s out e0 = e0 s' r
  | 0, i, _, _, _, _, h, _, _, _, _, _, _, _, _ => by omega
  | n + 1, i, day, s, out, b, h, hi, hs, hb, h1, h2, ho, hf, hm6 => by
    by_cases hc : i < m
    · obtain ⟨p, s1, hp, z1, e1⟩ := Stream_Pick_gives hs [0, 1, 2] (by omega) (by simp) (by simp)
      obtain ⟨cl, s2, hcl, z2, e2⟩ := Stream_Some_gives z1 [[107, 49, 97, 98], [111, 104, 50, 97, 98, 99], [119, 49, 97, 119]] (by omega) (by simp) (by simp)
      obtain ⟨ct, s3, hct, z3, e3⟩ := Stream_Some_gives z2 [[97, 108, 108], [99, 111, 100, 101]] (by omega) (by simp) (by simp)
      obtain ⟨pt, s4, hpt, z4, e4⟩ := Stream_Pick_gives z3 [0, 5, 5, 7, 9] (by omega) (by simp) (by simp)
      obtain ⟨f, s5, z5, e5⟩ := Stream_Flip_gives z4 80 (by omega) (by omega)
      simp only [List.mem_cons, List.not_mem_nil, or_false] at hp hpt
      have ea : w64 (day + p) = day + p := w64_eq (by omega) (by omega)
      have hcl' : cl ∈ callsL := sub_mem hcl (by decide +kernel)
      have hct' : ct ∈ keysT := sub_mem hct (by decide +kernel)
      have htry : ∃ (c : G_Try) (s' : G_Stream), FineT c ∧ SOk (b + 20 * ((i + 1 : Nat) : Int)) s' ∧ ∀ (R : Type) (e0 : G_Stream → List G_Try → Option R), Stream_Tries_L4 I_Stream_Tries (n + 1) day (m : Int) (i : Int) s out e0 = Stream_Tries_L4 I_Stream_Tries n (day + p) (m : Int) ((i + 1 : Nat) : Int) s' (out ++ [c]) e0 := by
        cases f with
        | false =>
          refine ⟨⟨day + p, cl, ct, pt⟩, s5, ⟨⟨by simp only; omega, by simp only; omega⟩, hcl', hct', ⟨by simp only; omega, by simp only; omega⟩⟩, z5.mono (by omega), fun R e0 => ?_⟩
          rw [Stream_Tries_L4]
          simp only [I_Stream_Tries, decide_eq_true (show (i : Int) < (m : Int) by omega), cond_true, e1, e2, e3, e4, e5, ea, cond_false, room1 out _ 48 (show out.length ≤ 1000000 by omega) (by omega)]
          rw [w64_succ (by omega)]
        | true =>
          obtain ⟨x1, t1, x11, x12, y1, f1⟩ := Stream_Odd_gives z5 0 9 (by omega) (by omega) (by omega) (by omega) (by omega)
          obtain ⟨x2, t2, hx2, y2, f2⟩ := Stream_Some_gives y1 [cl, []] (by omega) (by simp) (by simp)
          obtain ⟨x3, t3, hx3, y3, f3⟩ := Stream_Some_gives y2 [ct, [65]] (by omega) (by simp) (by simp)
          obtain ⟨x4, t4, x41, x42, y4, f4⟩ := Stream_Odd_gives y3 0 1000000000000 (by omega) (by omega) (by omega) (by omega) (by omega)
          have hx2' : x2 ∈ callsL := by
            simp only [List.mem_cons, List.not_mem_nil, or_false] at hx2
            rcases hx2 with h | h
            · rw [h]; exact hcl'
            · rw [h]; decide
          have hx3' : x3 ∈ keysT := by
            simp only [List.mem_cons, List.not_mem_nil, or_false] at hx3
            rcases hx3 with h | h
            · rw [h]; exact hct'
            · rw [h]; decide
          refine ⟨⟨x1, x2, x3, x4⟩, t4, ⟨⟨by simp only; omega, by simp only; omega⟩, hx2', hx3', ⟨by simp only; omega, by simp only; omega⟩⟩, y4.mono (by omega), fun R e0 => ?_⟩
          rw [Stream_Tries_L4]
          simp only [I_Stream_Tries, decide_eq_true (show (i : Int) < (m : Int) by omega), cond_true, e1, e2, e3, e4, e5, ea, f1, f2, f3, f4, room1 out _ 48 (show out.length ≤ 1000000 by omega) (by omega)]
          rw [w64_succ (by omega)]
      obtain ⟨c, s', hcf, zs, hstep⟩ := htry
      obtain ⟨r, s'', g1, g2, g3, g4⟩ := Stream_Tries_loop m n (i + 1) (day + p) s' (out ++ [c]) b (by omega) (by omega) zs hb (by omega) (by omega) (by simp [ho]) (fun x hx => by
        rcases List.mem_append.1 hx with h | h
        · exact hf x h
        · simp at h; rw [h]; exact hcf) hm6
      exact ⟨r, s'', g1, g2, g3, fun R e0 => by rw [hstep, g4]⟩
    · refine ⟨out, s, hs.mono (by omega), by omega, hf, fun R e0 => ?_⟩
      rw [Stream_Tries_L4, decide_eq_false (by omega)]; rfl
theorem Stream_Tries_gives {b : Int} {s : G_Stream} (hs : SOk b s) (hb : b ≤ 900000) :
    ∃ (r : List G_Try) (s' : G_Stream), SOk (b + 200) s' ∧ r.length ≤ 8 ∧ (∀ c ∈ r, FineT c) ∧ ∀ (R : Type) (k : List G_Try → G_Stream → Option R), Stream_Tries s k = k r s' := by
  obtain ⟨m, s1, n1, n2, z1, e1⟩ := Stream_Range_gives hs 0 8 (by omega) (by omega) (by omega) (by omega) (by omega)
  obtain ⟨m, rfl⟩ : ∃ q : Nat, m = (q : Int) := ⟨m.toNat, by omega⟩
  obtain ⟨r, s', g1, g2, g3, g4⟩ := Stream_Tries_loop m NN 0 0 s1 [] (b + 10) (by have := NN_ok; omega) (by omega) (z1.mono (by omega)) (by omega) (by omega) (by omega) rfl (fun c h => by cases h) (by omega)
  have g4' : ∀ (R : Type) (e0 : G_Stream → List G_Try → Option R), Stream_Tries_L4 I_Stream_Tries I_Stream_Tries.N 0 (m : Int) 0 s1 [] e0 = e0 s' r := g4
  refine ⟨sortI cmpT r, s', g1.mono (by omega), by rw [sortI_length]; omega, fun c h => g3 c (sortI_mem.1 h), fun R k => ?_⟩
  simp only [I_Stream_Tries] at g4'
  simp only [Stream_Tries, Stream_Tries_, I_Stream_Tries, e1, g4', sortT_is (show r.length ≤ 20 by omega)]
noncomputable def chkT (c : G_Try) : Int := bif !inB c.f_Day 0 4000 then 1 else bif !callB c.f_Call then 3 else bif !keyB c.f_Category then 5 else bif !inB c.f_Points 0 1000000000000 then 1 else 0
noncomputable def faultTs : Option G_Try → List G_Try → Int
  | _, [] => 0
  | p, c :: cs => bif chkT c != 0 then chkT c else match p with
    | none => faultTs (some c) cs
    | some q => bif decide (cmpT q c ≥ 0) then 7 else faultTs (some c) cs
theorem club_isDay_is (d : Int) (R : Type) (k : Bool → Option R) : club_isDay d k = k (inB d 0 4000) := by
  simp only [club_isDay, club_isDay_, I_club_isDay, kit_Outside_is, Bool.not_not]
theorem cmpT_days (q c : G_Try) : (q.f_Day < c.f_Day → decide (cmpT q c ≥ 0) = false) ∧ (q.f_Day = c.f_Day → decide (cmpT q c ≥ 0) = decide (orL [Lib.compareBytes q.f_Category c.f_Category, Lib.compareBytes q.f_Call c.f_Call] ≥ 0)) ∧ (q.f_Day > c.f_Day → decide (cmpT q c ≥ 0) = true) := by
  have hc : cmpT q c = bif cmpI q.f_Day c.f_Day != 0 then cmpI q.f_Day c.f_Day else orL [Lib.compareBytes q.f_Category c.f_Category, Lib.compareBytes q.f_Call c.f_Call] := rfl
  refine ⟨fun h => ?_, fun h => ?_, fun h => ?_⟩
  · have : cmpI q.f_Day c.f_Day = -1 := by unfold cmpI; rw [decide_eq_true h]; rfl
    have h2 : cmpT q c = -1 := by rw [hc, this]; rfl
    rw [h2]; rfl
  · have : cmpI q.f_Day c.f_Day = 0 := cmpI_zero.2 h
    have h2 : cmpT q c = orL [Lib.compareBytes q.f_Category c.f_Category, Lib.compareBytes q.f_Call c.f_Call] := by rw [hc, this]; rfl
    rw [h2]
  · have : cmpI q.f_Day c.f_Day = 1 := by unfold cmpI; rw [decide_eq_false (by omega), decide_eq_true h]; rfl
    have h2 : cmpT q c = 1 := by rw [hc, this]; rfl
    rw [h2]; rfl
theorem club_CheckTries_loop (d : List G_Try) (hf : ∀ c ∈ d, FineT c) (hl : d.length ≤ 100000) : ∀ (xs : List G_Try) (n i : Nat) (p : Option G_Try), d.drop i = xs → PrevAt d i p → xs.length < n → ∀ (R : Type) (k : Int → Option R),
    club_CheckTries_L4 I_club_CheckTries n d d (d.length : Int) (i : Int) k (k 0) = k (faultTs p xs)
  | _, 0, _, _, _, _, h, _, _ => by omega
  | [], n + 1, i, p, h, _, _, _, _ => by rw [club_CheckTries_L4, ge_drop h]; rfl
  | c :: cs, n + 1, i, p, h, hp, hn, R, k => by
    have h' := drop_cons h
    have ih := club_CheckTries_loop d hf hl cs n (i + 1) (some c) h'.2.2.1 (prevAt_next h) (by simp at hn; omega) R k
    have hc := hf c (mem_drop h)
    rw [club_CheckTries_L4, lt_drop h]
    simp only [I_club_CheckTries] at ih
    simp only [cond_true, get_drop h, I_club_CheckTries, club_isDay_is, kit_Outside_is, call_Is_is hc.call, kit_IsKeyT_is hc.cat, cmp_Compare__int_is, strings_Compare_is, faultTs, chkT, w64_succ (show i < 4611686018427387904 by omega), ih]
    cases inB c.f_Day 0 4000 <;> cases callB c.f_Call <;> cases keyB c.f_Category <;> cases inB c.f_Points 0 1000000000000 <;> try rfl
    cases p with
    | none => rw [decide_eq_false (show ¬ ((i : Int) > 0) by unfold PrevAt at hp; omega)]; rfl
    | some q =>
      obtain ⟨h0, ys, hq⟩ := hp
      rw [decide_eq_true (show ((i : Int) > 0) by omega), prev_drop hq h0 (by omega), prev_drop hq h0 (by omega), prev_drop hq h0 (by omega), cmp_Or__int_is _ (by simp)]
      simp only [Bool.not_true, cond_false, cond_true, bne_self_eq_false]
      show (bif decide (cmpT q c ≥ 0) then k 7 else _) = _
      cases decide (cmpT q c ≥ 0) <;> rfl
theorem Q_TriesFault_loop (d : List G_Try) (hf : ∀ c ∈ d, FineT c) (hl : d.length ≤ 100000) : ∀ (xs : List G_Try) (n i : Nat) (p : Option G_Try), d.drop i = xs → PrevAt d i p → xs.length < n → ∀ (R : Type) (k : Int → Option R),
    Q_TriesFault_L4 I_Q_TriesFault n d d (d.length : Int) (i : Int) k (k 0) = k (faultTs p xs)
  | _, 0, _, _, _, _, h, _, _ => by omega
  | [], n + 1, i, p, h, _, _, _, _ => by rw [Q_TriesFault_L4, ge_drop h]; rfl
  | c :: cs, n + 1, i, p, h, hp, hn, R, k => by
    have h' := drop_cons h
    have ih := Q_TriesFault_loop d hf hl cs n (i + 1) (some c) h'.2.2.1 (prevAt_next h) (by simp at hn; omega) R k
    have hc := hf c (mem_drop h)
    rw [Q_TriesFault_L4, lt_drop h]
    simp only [I_Q_TriesFault] at ih
    simp only [cond_true, get_drop h, I_Q_TriesFault, Q_in_is, Q_Call_is hc.call, Q_KeyT_is hc.cat, slices_Compare_two, faultTs, chkT, w64_succ (show i < 4611686018427387904 by omega), ih]
    cases inB c.f_Day 0 4000 <;> cases callB c.f_Call <;> cases keyB c.f_Category <;> cases inB c.f_Points 0 1000000000000 <;> try rfl
    cases p with
    | none => rw [decide_eq_false (show ¬ ((i : Int) > 0) by unfold PrevAt at hp; omega)]; rfl
    | some q =>
      obtain ⟨h0, ys, hq⟩ := hp
      rw [decide_eq_true (show ((i : Int) > 0) by omega), cond_true, prev_drop hq h0 (by omega)]
      simp only [Bool.not_true, cond_false, cond_true, bne_self_eq_false]
      obtain ⟨c1, c2, c3⟩ := cmpT_days q c
      rcases Int.lt_trichotomy q.f_Day c.f_Day with h1 | h1 | h1
      · have h2 : (q.f_Day == c.f_Day) = false := by rw [beq_eq_false_iff_ne]; omega
        rw [c1 h1, decide_eq_false (show ¬ q.f_Day > c.f_Day by omega), h2]; rfl
      · rw [c2 h1, decide_eq_false (show ¬ q.f_Day > c.f_Day by omega), h1]
        simp only [cond_false, beq_self_eq_true, cond_true]
        cases decide (orL [Lib.compareBytes q.f_Category c.f_Category, Lib.compareBytes q.f_Call c.f_Call] ≥ 0) <;> rfl
      · rw [c3 h1, decide_eq_true h1]; rfl
noncomputable def faultT (d : List G_Try) : Int := bif decide ((d.length : Int) > 500) then 2 else faultTs none d
theorem club_CheckTries_is {d : List G_Try} (hf : ∀ c ∈ d, FineT c) (hl : d.length ≤ 100000) (R : Type) (k : Int → Option R) : club_CheckTries d k = k (faultT d) := by
  have h : club_CheckTries_L4 I_club_CheckTries I_club_CheckTries.N d d (d.length : Int) 0 k (k 0) = k (faultTs none d) := club_CheckTries_loop d hf hl d I_club_CheckTries.N 0 none rfl rfl (show d.length < NN by have := NN_ok; omega) R k
  simp only [club_CheckTries, club_CheckTries_, faultT, h]
  cases decide ((d.length : Int) > 500) <;> rfl
theorem Q_TriesFault_is {d : List G_Try} (hf : ∀ c ∈ d, FineT c) (hl : d.length ≤ 100000) (R : Type) (k : Int → Option R) : Q_TriesFault d k = k (faultT d) := by
  have h : Q_TriesFault_L4 I_Q_TriesFault I_Q_TriesFault.N d d (d.length : Int) 0 k (k 0) = k (faultTs none d) := Q_TriesFault_loop d hf hl d I_Q_TriesFault.N 0 none rfl rfl (show d.length < NN by have := NN_ok; omega) R k
  simp only [Q_TriesFault, Q_TriesFault_, faultT, h]
  cases decide ((d.length : Int) > 500) <;> rfl
theorem faultTs_days : ∀ (l : List G_Try) (p : Option G_Try), faultTs p l = 0 → (∀ q, p = some q → ∀ c ∈ l, q.f_Day ≤ c.f_Day) ∧ l.Pairwise fun a b => a.f_Day ≤ b.f_Day
  | [], _, _ => ⟨fun _ _ _ h => (by cases h), .nil⟩
  | x :: xs, p, h => by
    unfold faultTs at h
    cases hx : chkT x != 0 with
    | true => rw [hx] at h; simp only [cond_true] at h; rw [h] at hx; cases hx
    | false =>
      rw [hx, cond_false] at h
      have sub : faultTs (some x) xs = 0 := by
        cases p with
        | none => exact h
        | some q =>
          simp only at h
          cases hq : decide (cmpT q x ≥ 0) with
          | true => rw [hq] at h; cases h
          | false => rw [hq] at h; exact h
      obtain ⟨g1, g2⟩ := faultTs_days xs (some x) sub
      refine ⟨fun q hq c hc => ?_, List.Pairwise.cons (fun c hc => g1 x rfl c hc) g2⟩
      subst hq
      simp only at h
      have hlt : ¬ cmpT q x ≥ 0 := by
        cases hq : decide (cmpT q x ≥ 0) with
        | true => rw [hq] at h; cases h
        | false => exact of_decide_eq_false hq
      have hd : q.f_Day ≤ x.f_Day := by
        apply Classical.byContradiction
        intro hn
        exact hlt (of_decide_eq_true ((cmpT_days q x).2.2 (by omega)))
      rcases List.mem_cons.1 hc with rfl | hc
      · exact hd
      · exact Int.le_trans hd (g1 x rfl c hc)
theorem faultT_days {l : List G_Try} (h : faultT l = 0) : l.Pairwise fun a b => a.f_Day ≤ b.f_Day := by
  unfold faultT at h
  cases hl : decide ((l.length : Int) > 500) with
  | true => rw [hl] at h; cases h
  | false => rw [hl] at h; exact (faultTs_days l none h).2
end Go.Am
set_option linter.unusedVariables false
set_option linter.unusedSectionVars false
set_option linter.unusedSimpArgs false
set_option maxRecDepth 100000
namespace Go.Am
open Go Go.Proofs
variable [Fuel]
def z0B : G_Best := ⟨[], [], 0, 0⟩
def bestB (x : G_Try) : G_Best := ⟨x.f_Category, x.f_Call, x.f_Points, x.f_Day⟩
def stepB (m : List (List UInt8 × G_Best)) (x : G_Try) : List (List UInt8 × G_Best) :=
  bif !(aget keq_string x.f_Category m).isSome then aset keq_string x.f_Category (bestB x) m else bif decide (x.f_Points > ((aget keq_string x.f_Category m).getD z0B).f_Points) then aset keq_string x.f_Category (bestB x) m else m
def recP (day : Int) : List (List UInt8 × G_Best) → List G_Try → List (List UInt8 × G_Best)
  | m, [] => m
  | m, x :: xs => bif decide (x.f_Day > day) then m else recP day (stepB m x) xs
def recQ (day : Int) : List (List UInt8 × G_Best) → List G_Try → List (List UInt8 × G_Best)
  | m, [] => m
  | m, x :: xs => bif decide (x.f_Day ≤ day) then recQ day (stepB m x) xs else recQ day m xs
theorem recQ_over (day : Int) : ∀ (l : List G_Try) (m : List (List UInt8 × G_Best)), (∀ x ∈ l, x.f_Day > day) → recQ day m l = m
  | [], m, _ => rfl
  | x :: xs, m, h => by
    unfold recQ
    rw [decide_eq_false (by have := h x (by simp); omega), cond_false, recQ_over day xs m (fun y hy => h y (by simp [hy]))]
theorem recP_is (day : Int) : ∀ (l : List G_Try) (m : List (List UInt8 × G_Best)), l.Pairwise (fun a b => a.f_Day ≤ b.f_Day) → recP day m l = recQ day m l
  | [], m, _ => rfl
  | x :: xs, m, h => by
    obtain ⟨h1, h2⟩ := List.pairwise_cons.1 h
    unfold recP recQ
    by_cases hd : x.f_Day > day
    · rw [decide_eq_true hd, decide_eq_false (by omega), cond_true, cond_false, recQ_over day xs m (fun y hy => by have := h1 y hy; omega)]
    · rw [decide_eq_false hd, decide_eq_true (by omega), cond_false, cond_true, recP_is day xs (stepB m x) h2]
structure FineB (m : List (List UInt8 × G_Best)) : Prop where
  one : OneM m
  key : ∀ p ∈ m, p.2.f_Category = p.1
  fine : ∀ p ∈ m, p.1 ∈ keysT
theorem stepB_cases (m : List (List UInt8 × G_Best)) (x : G_Try) : stepB m x = aset keq_string x.f_Category (bestB x) m ∨ stepB m x = m := by
  unfold stepB
  cases !(aget keq_string x.f_Category m).isSome with
  | true => exact .inl rfl
  | false => cases decide (x.f_Points > ((aget keq_string x.f_Category m).getD z0B).f_Points) with
    | true => exact .inl rfl
    | false => exact .inr rfl
theorem stepB_fine {m : List (List UInt8 × G_Best)} (h : FineB m) {x : G_Try} (hx : FineT x) : FineB (stepB m x) := by
  rcases stepB_cases m x with e | e
  · rw [e]
    refine ⟨aset_one keq_string_is h.one _ _, fun p hp => ?_, fun p hp => ?_⟩
    · rcases aset_mem hp with rfl | hp
      · rfl
      · exact h.key p hp
    · rcases aset_mem hp with rfl | hp
      · exact hx.cat
      · exact h.fine p hp
  · rw [e]; exact h
theorem stepB_len (m : List (List UInt8 × G_Best)) (x : G_Try) : (stepB m x).length ≤ m.length + 1 := by
  rcases stepB_cases m x with e | e
  · rw [e]; exact aset_len _ _ _
  · rw [e]; omega
theorem recQ_fine (day : Int) : ∀ (l : List G_Try) (m : List (List UInt8 × G_Best)), FineB m → (∀ x ∈ l, FineT x) → FineB (recQ day m l) ∧ (recQ day m l).length ≤ m.length + l.length
  | [], m, h, _ => ⟨h, by simp [recQ]⟩
  | x :: xs, m, h, hl => by
    unfold recQ
    cases decide (x.f_Day ≤ day) with
    | true =>
      obtain ⟨h1, h2⟩ := recQ_fine day xs (stepB m x) (stepB_fine h (hl x (by simp))) (fun y hy => hl y (by simp [hy]))
      have := stepB_len m x
      exact ⟨h1, by simp; omega⟩
    | false =>
      obtain ⟨h1, h2⟩ := recQ_fine day xs m h (fun y hy => hl y (by simp [hy]))
      exact ⟨h1, by simp; omega⟩
theorem fineB0 : FineB [] := ⟨.nil, fun p h => (by cases h), fun p h => (by cases h)⟩
theorem keysT_len : ∀ s ∈ keysT, s.length ≤ 100 := by decide
theorem stepB_on {R : Type} (m : List (List UInt8 × G_Best)) (x : G_Try) (f : List (List UInt8 × G_Best) → Option R) :
    (bif !(aget keq_string x.f_Category m).isSome then f (aset keq_string x.f_Category (bestB x) m) else bif decide (x.f_Points > ((aget keq_string x.f_Category m).getD z0B).f_Points) then f (aset keq_string x.f_Category (bestB x) m) else f m) = f (stepB m x) := by
  unfold stepB
  cases !(aget keq_string x.f_Category m).isSome with
  | true => rfl
  | false => cases decide (x.f_Points > ((aget keq_string x.f_Category m).getD z0B).f_Points) <;> rfl
theorem club_Records_L8_is (day : Int) (d : List G_Try) (hl : d.length ≤ 100000) : ∀ (xs : List G_Try) (n i : Nat) (m : List (List UInt8 × G_Best)), d.drop i = xs → xs.length < n → ∀ (R : Type) (e0 : List (List UInt8 × G_Best) → Option R),
    club_Records_L8 I_club_Records n day d (d.length : Int) (i : Int) m e0 = e0 (recP day m xs)
  | _, 0, _, _, _, h, _, _ => by omega
  | [], n + 1, i, m, h, _, R, e0 => by rw [club_Records_L8, ge_drop h]; rfl
  | x :: xs, n + 1, i, m, h, hn, R, e0 => by
    have h' := drop_cons h
    have ih := fun m => club_Records_L8_is day d hl xs n (i + 1) m h'.2.2.1 (by simp at hn; omega) R e0
    rw [club_Records_L8, lt_drop h]
    simp only [cond_true, get_drop h, w64_succ (show i < 4611686018427387904 by omega), ih, recP, lm_get_string_Best, lm_set_string_Best]
    cases decide (x.f_Day > day) with
    | true => rfl
    | false => exact stepB_on m x fun m => e0 (recP day m xs)
theorem Q_RecordsOf_L3_is (day : Int) (d : List G_Try) (hl : d.length ≤ 100000) : ∀ (xs : List G_Try) (n i : Nat) (m : List (List UInt8 × G_Best)), d.drop i = xs → xs.length < n → ∀ (R : Type) (e0 : List (List UInt8 × G_Best) → Option R),
    Q_RecordsOf_L3 I_Q_RecordsOf n day d (d.length : Int) (i : Int) m e0 = e0 (recQ day m xs)
  | _, 0, _, _, _, h, _, _ => by omega
  | [], n + 1, i, m, h, _, R, e0 => by rw [Q_RecordsOf_L3, ge_drop h]; rfl
  | x :: xs, n + 1, i, m, h, hn, R, e0 => by
    have h' := drop_cons h
    have ih := fun m => Q_RecordsOf_L3_is day d hl xs n (i + 1) m h'.2.2.1 (by simp at hn; omega) R e0
    rw [Q_RecordsOf_L3, lt_drop h]
    simp only [cond_true, get_drop h, w64_succ (show i < 4611686018427387904 by omega), ih, recQ, lm_get_string_Best, lm_set_string_Best]
    cases decide (x.f_Day ≤ day) with
    | false => rfl
    | true => exact stepB_on m x fun m => e0 (recQ day m xs)
theorem etaB (b : G_Best) : (⟨b.f_Category, b.f_Call, b.f_Points, b.f_Since⟩ : G_Best) = b := rfl
theorem club_Records_L17_is (m : List (List UInt8 × G_Best)) (d : List (List UInt8)) (hl : d.length ≤ 100000) : ∀ (xs : List (List UInt8)) (n i : Nat) (out : List G_Best), d.drop i = xs → xs.length < n → out.length ≤ i → ∀ (R : Type) (e0 : List G_Best → Option R),
    club_Records_L17 I_club_Records n (d.length : Int) (i : Int) m d out e0 = e0 (out ++ xs.map fun k => (aget keq_string k m).getD z0B)
  | _, 0, _, _, _, h, _, _, _ => by omega
  | [], n + 1, i, out, h, _, _, R, e0 => by rw [club_Records_L17, ge_drop h]; simp
  | x :: xs, n + 1, i, out, h, hn, ho, R, e0 => by
    have h' := drop_cons h
    have ih := fun o (ho : o.length ≤ i + 1) => club_Records_L17_is m d hl xs n (i + 1) o h'.2.2.1 (by simp at hn; omega) ho R e0
    rw [club_Records_L17, lt_drop h]
    simp only [cond_true, inr_drop h, at_drop h, w64_succ (show i < 4611686018427387904 by omega), lm_get_string_Best, etaB, room1 out _ 48 (show out.length ≤ 1000000 by omega) (by omega)]
    rw [ih _ (by simp; omega)]
    simp [z0B]
noncomputable def cmpB (a b : G_Best) : Int := Lib.compareBytes a.f_Category b.f_Category
theorem ords_cmpB : Ords cmpB := ords_cb.on fun b : G_Best => b.f_Category
noncomputable def bestL (day : Int) (l : List G_Try) : List G_Best := sortI cmpB ((recQ day [] l).map (·.2))
theorem srtK9_is (ks : List (List UInt8)) (hn : ks.Nodup) (hl : ∀ s ∈ ks, s.length ≤ 100000) (hc : ks.length ≤ 1000000) : srtK9 ks = some (sortI Lib.compareBytes ks) := by
  have e : ∀ l : List (List UInt8), List.map (fun x : List UInt8 => x) l = l := fun l => List.map_id' l
  have h := ordS_is (A := A) (k := 9) rfl ks (fun x => x) (fun x => x) (by show (List.map (fun x : List UInt8 => x) ks).Nodup; rw [e]; exact hn) (fun s hs => by
    have hs : s ∈ List.map (fun x : List UInt8 => x) ks := hs
    rw [e] at hs; exact hl s hs) hc
  refine h.trans ?_
  show some (List.map (fun x : List UInt8 => x) (sortI Lib.compareBytes (List.map (fun x : List UInt8 => x) ks))) = _
  rw [e, e]
theorem club_Records_is {l : List G_Try} (hf : ∀ x ∈ l, FineT x) (hl : l.length ≤ 1000) (day : Int) (R : Type) (k : List G_Best → Int → Option R) :
    club_Records l day k = bif orL [faultT l, bif inB day 0 4000 then 0 else 1] != 0 then k [] (orL [faultT l, bif inB day 0 4000 then 0 else 1]) else k (bestL day l) 0 := by
  have hNN := NN_ok
  simp only [club_Records, club_Records_, club_CheckTries_is hf (show l.length ≤ 100000 by omega), club_isDay_is, I_club_Records, orL]
  cases h1 : faultT l != 0 with
  | true => simp only [cond_true, h1]
  | false =>
    simp only [cond_false]
    cases h2 : inB day 0 4000 with
    | false => rfl
    | true =>
      have z1 : faultT l = 0 := by simpa using h1
      have e8 : ∀ e0 : List (List UInt8 × G_Best) → Option R, club_Records_L8 I_club_Records NN day l (l.length : Int) 0 [] e0 = e0 (recP day [] l) := fun e0 => club_Records_L8_is day l (by omega) l NN 0 [] rfl (by omega) R e0
      simp only [I_club_Records] at e8
      rw [recP_is day l [] (faultT_days z1)] at e8
      obtain ⟨hfb, hlen⟩ := recQ_fine day l [] fineB0 hf
      simp at hlen
      generalize hm : recQ day [] l = m at e8 hfb hlen
      have hk : srtK9 (List.map (fun p => p.1) m) = some (sortI Lib.compareBytes (m.map (·.1))) :=
        srtK9_is (m.map (·.1)) hfb.one (fun s hs => by
          obtain ⟨p, hp, rfl⟩ := List.mem_map.1 hs
          have := keysT_len p.1 (hfb.fine p hp)
          omega) (by rw [List.length_map]; omega)
      have hlk : (sortI Lib.compareBytes (m.map (·.1))).length ≤ 100000 := by rw [sortI_length]; simp; omega
      have e17 : ∀ e0 : List G_Best → Option R, club_Records_L17 I_club_Records NN ((sortI Lib.compareBytes (m.map (·.1))).length : Int) 0 m (sortI Lib.compareBytes (m.map (·.1))) [] e0 = e0 ((sortI Lib.compareBytes (m.map (·.1))).map fun k => (aget keq_string k m).getD z0B) :=
        fun e0 => by
          have h := club_Records_L17_is m (sortI Lib.compareBytes (m.map (·.1))) hlk _ NN 0 [] rfl (by rw [List.drop_zero]; omega) (by simp) R e0
          rw [List.drop_zero, List.nil_append] at h
          exact h
      simp only [I_club_Records] at e17
      simp only [Bool.not_true, cond_false, e8, hk, keys_, e17]
      rw [byKeys keq_string_is ords_cb (fun x y h => cb_eq_zero.1 h) z0B hfb.one hfb.key]
      show k (sortI cmpB (m.map (·.2))) 0 = _
      rw [← hm]
      rfl
theorem Q_RecordsOf_L11_is {R : Type} (y : Option R) (m : List (List UInt8 × G_Best)) (e0 : List G_Best → Option R) : ∀ (n : Nat) (left : List (List UInt8 × G_Best)) (out : List G_Best), left.length < n → out.length + left.length ≤ 1000000 → (∀ o, o.Perm (out ++ left.map (·.2)) → e0 o = y) →
    Q_RecordsOf_L11 I_Q_RecordsOf n m left out e0 = y
  | 0, _, _, h, _, _ => by omega
  | n + 1, [], out, _, _, he => by
    rw [Q_RecordsOf_L11, pickAll_nil]
    exact he out (by simp)
  | n + 1, x :: xs, out, h, hl, he => by
    rw [Q_RecordsOf_L11]
    refine pickAll_same (by simp) (fun p hp => ?_)
    have hpm := picks_perm hp
    have hlen := hpm.length_eq
    simp at hlen
    simp at h hl
    simp only [room1 out p.1.2 48 (by omega) (by omega), cond_true]
    refine Q_RecordsOf_L11_is y m e0 n p.2 (out ++ [p.1.2]) (by omega) (by simp; omega) (fun o ho => he o (ho.trans ?_))
    rw [List.append_assoc]
    exact (List.Perm.append_left out (by simpa using hpm.map (·.2)))
theorem Q_RecordsOf_1_is (x y : G_Best) (R : Type) (k : Int → Option R) : Q_RecordsOf_1 x y k = k (cmpB x y) := by
  simp only [Q_RecordsOf_1, Q_RecordsOf_1_, I_Q_RecordsOf_1, strings_Compare_is]; rfl
theorem raw_Q_RecordsOf_is {l : List G_Try} (hf : ∀ x ∈ l, FineT x) (hl : l.length ≤ 1000) (day : Int) (R : Type) (k : List G_Best → Option R) : raw_Q_RecordsOf I_Q_RecordsOf l day k = k (bestL day l) := by
  have hNN := NN_ok
  have e3 : ∀ e0 : List (List UInt8 × G_Best) → Option R, Q_RecordsOf_L3 I_Q_RecordsOf NN day l (l.length : Int) 0 [] e0 = e0 (recQ day [] l) := fun e0 => Q_RecordsOf_L3_is day l (by omega) l NN 0 [] rfl (by omega) R e0
  obtain ⟨hfb, hlen⟩ := recQ_fine day l [] fineB0 hf
  simp at hlen
  generalize hm : recQ day [] l = m at e3 hfb hlen
  have hz : ∀ x ∈ m.map (·.2), ∀ y ∈ m.map (·.2), cmpB x y = 0 → x = y := fun x hx y hy hxy => by
    obtain ⟨p, hp, rfl⟩ := List.mem_map.1 hx
    obtain ⟨q, hq, rfl⟩ := List.mem_map.1 hy
    have e := cb_eq_zero.1 hxy
    rw [hfb.key p hp, hfb.key q hq] at e
    have h1 := aget_one keq_string_is hfb.one p hp
    have h2 := aget_one keq_string_is hfb.one q hq
    rw [e, h2] at h1
    exact (Option.some.inj h1).symm
  have e11 : Q_RecordsOf_L11 I_Q_RecordsOf NN m m [] (fun e18 => slices_SortFunc__Best_Q_RecordsOf_1 e18 (fun r19 => k r19)) = k (bestL day l) := by
    refine Q_RecordsOf_L11_is _ _ _ NN m [] (by omega) (by simp; omega) (fun o ho => ?_)
    rw [List.nil_append] at ho
    have hol := ho.length_eq
    simp at hol
    show X_sortf (@Q_RecordsOf_1 _) o _ = _
    rw [X_sortf_one ords_cmpB (by omega) (fun x hx y hy => hz x (ho.mem_iff.1 hx) y (ho.mem_iff.1 hy)) (fun x _ y _ => Q_RecordsOf_1_is x y), sortI_perm_one ords_cmpB hz ho]
    unfold bestL
    rw [hm]
  simp only [I_Q_RecordsOf] at e3 e11
  simp only [raw_Q_RecordsOf, I_Q_RecordsOf, e3]
  exact e11
theorem Q_RecordsOf_is {l : List G_Try} (hf : ∀ x ∈ l, FineT x) (hl : l.length ≤ 1000) (day : Int) (R : Type) (k : List G_Best → Option R) : Q_RecordsOf l day k = k (bestL day l) := by
  show (raw_Q_RecordsOf I_Q_RecordsOf l day (fun z0 => some (inj0_Q_RecordsOf (z0)))).bind _ = _
  rw [raw_Q_RecordsOf_is hf hl]
  rfl
theorem bestL_len {l : List G_Try} (hf : ∀ x ∈ l, FineT x) (day : Int) : (bestL day l).length ≤ l.length := by
  obtain ⟨_, hlen⟩ := recQ_fine day l [] fineB0 hf
  unfold bestL
  rw [sortI_length]
  simpa using hlen
theorem law_dayFault_is (d : Int) (R : Type) (k : Int → Option R) : law_dayFault d k = k (bif inB d 0 4000 then 0 else 1) := by
  simp only [law_dayFault, law_dayFault_, I_law_dayFault, law_when, law_when_]
  by_cases h : d < 0
  · have : inB d 0 4000 = false := by
      cases hb : inB d 0 4000 with
      | false => rfl
      | true => have := inB_is.1 hb; omega
    rw [decide_eq_true h, this]; rfl
  · rw [decide_eq_false h]
    by_cases h2 : d > 4000
    · have : inB d 0 4000 = false := by
        cases hb : inB d 0 4000 with
        | false => rfl
        | true => have := inB_is.1 hb; omega
      rw [decide_eq_true h2, this]; rfl
    · rw [decide_eq_false h2, inB_is.2 ⟨by omega, by omega⟩]; rfl
theorem equalB_is {l : List G_Best} (hl : l.length ≤ 1000000) (R : Type) (k : Bool → Option R) : slices_Equal__Best l l k = k true := by
  rw [li_slices_Equal__Best]; exact sEqual_same (by have := NN_ok; omega) (by have := NN_ok; omega) (fun x => by rw [(eq_G_Best_is x x).2 rfl]; rfl) k
theorem equalBn_is (R : Type) (k : Bool → Option R) : slices_Equal__Best_n1 [] k = k true := by
  rw [li_slices_Equal__Best_n1]; exact sEqualN_nil (by have := NN_ok; omega) k
theorem law_RecordsKept_true (l : List Int) (R : Type) (k : Bool → Option R) : law_RecordsKept l k = k true := by
  obtain ⟨x, s1, z1, lx, hx, e1⟩ := Stream_Tries_gives (sOk0 l) (by omega)
  obtain ⟨day, s2, hday, z2, e2⟩ := Stream_Pick_gives z1 [0, 2, 4, 9, -1, 4001] (by omega) (by simp) (by simp)
  have hb := bestL_len hx day
  simp only [law_RecordsKept, law_RecordsKept_, I_law_RecordsKept, e1, e2, club_Records_is hx (show x.length ≤ 1000 by omega), Q_TriesFault_is hx (show x.length ≤ 100000 by omega), law_dayFault_is, law_errs_is [faultT x, bif inB day 0 4000 then 0 else 1] (by simp)]
  cases h : orL [faultT x, bif inB day 0 4000 then 0 else 1] != 0 with
  | true =>
    have h2 : (orL [faultT x, bif inB day 0 4000 then 0 else 1] == 0) = false := by simpa using h
    simp only [cond_true, h2, cond_false, club_CheckTries_is hx (show x.length ≤ 100000 by omega), beq_self_eq_true, equalBn_is, law_joinedClub_is]
  | false =>
    have h2 : orL [faultT x, bif inB day 0 4000 then 0 else 1] = 0 := by simpa using h
    simp only [cond_false, h2, beq_self_eq_true, cond_true, Q_RecordsOf_is hx (show x.length ≤ 1000 by omega), club_CheckTries_is hx (show x.length ≤ 100000 by omega), equalB_is (show (bestL day x).length ≤ 1000000 by omega), law_joinedClub_is]
end Go.Am
