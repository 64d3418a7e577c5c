/- The plain law, in Lean alone: G1, G2. No condition: lemmas for the claim. -/
import Derived.Test.YtonhhbcacemaiaaGreatDoorPlD1
set_option linter.unusedVariables false
set_option linter.unusedSectionVars false
set_option linter.unusedSimpArgs false
set_option maxRecDepth 100000
namespace Go.Am
open Go Go.Proofs
variable [Fuel]
def keysA : List (List UInt8) := [[97, 97], [97, 98], [97, 99], [122], [], [97]]
structure FineA (a : G_Award) : Prop where
 key : a.f_Key ∈ keysA
 band : a.f_Band ∈ keysL
 count : Mid a.f_Count
 need : Mid a.f_Need
theorem keysAI_ok : keysA.all (fun s => (kit_IsKey s some).isSome) = true := by
 obtain ⟨m, h, rfl⟩ := fuel_is ‹Fuel›
 kernel_rfl
theorem kit_IsKeyA_is {s : List UInt8} (h : s ∈ keysA) (R : Type) (k : Bool → Option R) : kit_IsKey s k = k (keyB s) :=
 nat_bool ok_kit_IsKey.na (args := [.d (.str s)]) (F := @kit_IsKey _ s) (fun _ _ => rfl) (someBool_is (List.all_eq_true.1 keysAI_ok s h)) R k
def lowA (p : Option G_Award) (a : G_Award) : Bool := match p with | none => false | some q => Op.bytesLess a.f_Key q.f_Key || a.f_Key == q.f_Key
noncomputable def chkA (p : Option G_Award) (a : G_Award) : Int :=
 bif !keyB a.f_Key then 5 else bif !nameB a.f_Band then 5 else bif !inB a.f_Count 1 4 then 4 else bif !inB a.f_Need 1 3000 then 1 else bif lowA p a then 7 else 0
theorem club_awardFault_is (d : List G_Award) (hf : ∀ c ∈ d, FineA c) (hl : d.length ≤ 100000) {c : G_Award} {cs : List G_Award} {i : Nat} {p : Option G_Award} (h : d.drop i = c :: cs) (hp : PrevAt d i p) (R : Type) (k : Int → Option R) : club_awardFault d (i : Int) k = k (chkA p c) := by
 have fc := hf c (mem_drop h)
 have tail : (bif decide ((i : Int) > 0) then get_ d (w64 ((i : Int) - 1)) fun x8 => bif (Op.bytesLess c.f_Key x8.f_Key || c.f_Key == x8.f_Key) then k 7 else k 0 else k 0) = k (bif lowA p c then 7 else 0) := by
  cases p with
  | none => rw [decide_eq_false (show ¬ ((i : Int) > 0) by unfold PrevAt at hp; omega)]; rfl
  | some q =>
   obtain ⟨h0, ys, hq⟩ := hp
   rw [decide_eq_true (show ((i : Int) > 0) by omega), cond_true, prev_drop hq h0 (by omega)]
   unfold lowA
   simp only
   cases (Op.bytesLess c.f_Key q.f_Key || c.f_Key == q.f_Key) <;> rfl
 simp only [club_awardFault, club_awardFault_, I_club_awardFault, get_drop h, kit_IsKeyA_is fc.key, kit_IsName_is fc.band, kit_Outside_is, tail, chkA]
 cases keyB c.f_Key <;> cases nameB c.f_Band <;> cases inB c.f_Count 1 4 <;> cases inB c.f_Need 1 3000 <;> rfl
noncomputable def faultAs : Option G_Award → List G_Award → Int
 | _, [] => 0
 | p, c :: cs => bif chkA p c != 0 then chkA p c else faultAs (some c) cs
theorem club_CheckAwards_loop (d : List G_Award) (hf : ∀ c ∈ d, FineA c) (hl : d.length ≤ 100000) : ∀ (xs : List G_Award) (n i : Nat) (p : Option G_Award), d.drop i = xs → PrevAt d i p → xs.length < n → ∀ (R : Type) (k : Int → Option R),
  club_CheckAwards_L4 I_club_CheckAwards n d (d.length : Int) (i : Int) k (k 0) = k (faultAs p xs)
 | _, 0, _, _, _, _, h, _, _ => by omega
 | [], n + 1, i, p, h, _, _, _, _ => by rw [club_CheckAwards_L4, ge_drop h]; rfl
 | c :: cs, n + 1, i, p, h, hp, hn, R, k => by
  have h' := drop_cons h
  have ih := club_CheckAwards_loop d hf hl cs n (i + 1) (some c) h'.2.2.1 (prevAt_next h) (by simp at hn; omega) R k
  rw [club_CheckAwards_L4, lt_drop h]
  simp only [I_club_CheckAwards] at ih
  simp only [cond_true, I_club_CheckAwards, club_awardFault_is d hf hl h hp, faultAs, w64_succ (show i < 4611686018427387904 by omega)]
  cases hq : chkA p c != 0 with
  | true => rfl
  | false => exact ih
noncomputable def faultA (d : List G_Award) : Int := bif decide ((d.length : Int) > 50) then 2 else faultAs none d
theorem club_CheckAwards_is {d : List G_Award} (hf : ∀ c ∈ d, FineA c) (hl : d.length ≤ 100000) (R : Type) (k : Int → Option R) : club_CheckAwards d k = k (faultA d) := by
 have h : club_CheckAwards_L4 I_club_CheckAwards I_club_CheckAwards.N d (d.length : Int) 0 k (k 0) = k (faultAs none d) := club_CheckAwards_loop d hf hl d I_club_CheckAwards.N 0 none rfl rfl (show d.length < NN by have := NN_ok; omega) R k
 simp only [club_CheckAwards, club_CheckAwards_, faultA, h]
 cases decide ((d.length : Int) > 50) <;> rfl
theorem chkA_zero {p : Option G_Award} {c : G_Award} (h : chkA p c = 0) : (1 ≤ c.f_Count ∧ c.f_Count ≤ 4) ∧ 1 ≤ c.f_Need ∧ c.f_Need ≤ 3000 := by
 unfold chkA at h
 cases h1 : keyB c.f_Key with
 | false => simp [h1] at h
 | true =>
  cases h2 : nameB c.f_Band with
  | false => simp [h1, h2] at h
  | true =>
   cases h3 : inB c.f_Count 1 4 with
   | false => simp [h1, h2, h3] at h
   | true =>
    cases h4 : inB c.f_Need 1 3000 with
    | false => simp [h1, h2, h3, h4] at h
    | true => exact ⟨inB_is.1 h3, inB_is.1 h4⟩
theorem faultAs_chk : ∀ (l : List G_Award) (p : Option G_Award), faultAs p l = 0 → ∀ c ∈ l, (1 ≤ c.f_Count ∧ c.f_Count ≤ 4) ∧ 1 ≤ c.f_Need ∧ c.f_Need ≤ 3000
 | [], _, _, c, h => by cases h
 | x :: xs, p, h, c, hc => by
  unfold faultAs at h
  cases hx : chkA p x != 0 with
  | true => rw [hx] at h; simp only [cond_true] at h; rw [h] at hx; cases hx
  | false =>
   rw [hx] at h
   rcases List.mem_cons.1 hc with rfl | hc
   ·exact chkA_zero (by simpa using hx)
   ·exact faultAs_chk xs (some x) h c hc
theorem faultA_chk {l : List G_Award} (h : faultA l = 0) : ∀ c ∈ l, (1 ≤ c.f_Count ∧ c.f_Count ≤ 4) ∧ 1 ≤ c.f_Need ∧ c.f_Need ≤ 3000 := by
 unfold faultA at h
 cases hl : decide ((l.length : Int) > 50) with
 | true => rw [hl] at h; cases h
 | false => rw [hl] at h; exact faultAs_chk l none h
end Go.Am
set_option linter.unusedVariables false
set_option linter.unusedSectionVars false
set_option linter.unusedSimpArgs false
set_option maxRecDepth 100000
namespace Go.Am
open Go Go.Proofs
variable [Fuel]
def addK {κ : Type} [DecidableEq κ] (ks : List κ) (k : κ) : List κ := if k ∈ ks then ks else ks ++ [k]
theorem addK_len {κ : Type} [DecidableEq κ] (ks : List κ) (k : κ) : ks.length ≤ (addK ks k).length ∧ (addK ks k).length ≤ ks.length + 1 := by
 unfold addK
 split <;> simp
theorem aset_keys {κ K : Type} [DecidableEq κ] {eq : K → K → Bool} (he : ∀ x y, eq x y = true ↔ x = y) (f : κ → K) (hf : ∀ x y, f x = f y → x = y) (k : κ) : ∀ ks : List κ, aset eq (f k) true (ks.map fun x => (f x, true)) = (addK ks k).map fun x => (f x, true)
 | [] => by simp [aset, addK]
 | x :: xs => by
  have ih := aset_keys he f hf k xs
  simp only [List.map_cons, aset]
  by_cases hx : k = x
  ·subst hx
   rw [(he (f k) (f k)).2 rfl]
   simp [addK]
  ·have hne : eq (f k) (f x) = false := by
    cases hq : eq (f k) (f x) with
    | false => rfl
    | true => exact absurd (hf _ _ ((he _ _).1 hq)) hx
   rw [hne, cond_false, ih]
   unfold addK
   by_cases hm : k ∈ xs
   ·rw [if_pos hm, if_pos (List.mem_cons_of_mem _ hm)]; rfl
   ·have : k ∉ x :: xs := by simp [hx, hm]
    rw [if_neg hm, if_neg this]; rfl
noncomputable def cntA (a : G_Award) (c : G_Card) : G_club_contact :=
 ⟨baseB c.f_Call, bif a.f_Count == 1 || a.f_Count == 3 then [] else c.f_Band, bif a.f_Count == 1 || a.f_Count == 2 then 0 else c.f_Mode⟩
def skipA (a : G_Award) (c : G_Card) : Bool := bif !(a.f_Band == []) then !(c.f_Band == a.f_Band) else false
noncomputable def seenA (a : G_Award) : List G_club_contact → List G_Card → List G_club_contact
 | ks, [] => ks
 | ks, c :: cs => bif skipA a c then seenA a ks cs else seenA a (addK ks (cntA a c)) cs
noncomputable def sinceA (a : G_Award) : Int → List G_club_contact → List G_Card → Int
 | s, _, [] => s
 | s, ks, c :: cs => bif skipA a c then sinceA a s ks cs else sinceA a (bif decide (((addK ks (cntA a c)).length : Int) ≥ a.f_Need) && decide (s < 0) then c.f_At else s) (addK ks (cntA a c)) cs
theorem seenA_len (a : G_Award) : ∀ (l : List G_Card) (ks : List G_club_contact), ks.length ≤ (seenA a ks l).length ∧ (seenA a ks l).length ≤ ks.length + l.length
 | [], ks => by simp [seenA]
 | c :: cs, ks => by
  have h1 := seenA_len a cs ks
  have h2 := seenA_len a cs (addK ks (cntA a c))
  have h3 := addK_len ks (cntA a c)
  unfold seenA
  cases skipA a c <;> simp <;> omega
theorem seenA_append (a : G_Award) : ∀ (l m : List G_Card) (ks : List G_club_contact), seenA a ks (l ++ m) = seenA a (seenA a ks l) m
 | [], m, ks => rfl
 | c :: cs, m, ks => by
  simp only [List.cons_append, seenA]
  cases skipA a c with
  | true => exact seenA_append a cs m ks
  | false => exact seenA_append a cs m _
theorem club_counted_is {a : G_Award} {c : G_Card} (R : Type) (k : G_club_contact → Option R) : club_counted a (keyK c) k = k (cntA a c) := by
 simp only [club_counted, club_counted_, cntA, keyK]
 cases h1 : a.f_Count == 1 <;> cases h2 : a.f_Count == 2 <;> cases h3 : a.f_Count == 3 <;> rfl
theorem club_reached_loop (d : List G_Card) (hf : ∀ c ∈ d, FineK c) (hl : d.length ≤ 100000) (a : G_Award) : ∀ (xs : List G_Card) (n i : Nat) (s : Int) (ks : List G_club_contact), d.drop i = xs → xs.length < n →
  ∀ (R : Type) (e0 : Int → List (G_club_contact × Bool) → Option R), club_reached_L4 I_club_reached n s d (d.length : Int) (i : Int) a (ks.map fun x => (x, true)) e0 = e0 (sinceA a s ks xs) ((seenA a ks xs).map fun x => (x, true))
 | _, 0, _, _, _, _, h, _, _ => by omega
 | [], n + 1, i, s, ks, h, _, R, e0 => by rw [club_reached_L4, ge_drop h]; rfl
 | c :: cs, n + 1, i, s, ks, h, hn, R, e0 => by
  have h' := drop_cons h
  have ih := fun s ks => club_reached_loop d hf hl a cs n (i + 1) s ks h'.2.2.1 (by simp at hn; omega) R e0
  have hset : mset_club_contact_bool (cntA a c) true (ks.map fun x => (x, true)) = (addK ks (cntA a c)).map fun x => (x, true) := by
   rw [lm_set_club_contact_bool]; exact aset_keys keq_club_contact_is id (fun _ _ h => h) (cntA a c) ks
  rw [club_reached_L4, lt_drop h]
  simp only [I_club_reached] at ih
  simp only [cond_true, get_drop h, I_club_reached, club_contactOf_is (hf c (mem_drop h)), club_counted_is, hset, List.length_map, w64_succ (show i < 4611686018427387904 by omega), ih, sinceA, seenA]
  have hsk : skipA a c = bif !(a.f_Band == []) then !(c.f_Band == a.f_Band) else false := rfl
  rw [hsk]
  cases a.f_Band == [] <;> cases c.f_Band == a.f_Band <;> cases decide (((addK ks (cntA a c)).length : Int) ≥ a.f_Need) <;> cases decide (s < 0) <;> rfl
theorem club_reached_is {d : List G_Card} (hf : ∀ c ∈ d, FineK c) (hl : d.length ≤ 100000) (a : G_Award) (R : Type) (k : Int → Int → Option R) : club_reached a d k = k ((seenA a [] d).length : Int) (sinceA a (-1) [] d) := by
 have h : ∀ e0 : Int → List (G_club_contact × Bool) → Option R, club_reached_L4 I_club_reached I_club_reached.N (-1) d (d.length : Int) 0 a [] e0 = e0 (sinceA a (-1) [] d) ((seenA a [] d).map fun x => (x, true)) := fun e0 =>
  club_reached_loop d hf hl a d I_club_reached.N 0 (-1) [] rfl (show d.length < NN by have := NN_ok; omega) R e0
 simp only [club_reached, club_reached_, h, List.length_map]
noncomputable def cntAt (a : G_Award) (l : List G_Card) (at0 : Int) : Nat := (seenA a [] (confK at0 [] l)).length
end Go.Am
