/- The plain law, in Lean alone: Z1, Z2. No condition: lemmas for the claim. -/
import Derived.Test.YtkcbebmbmffkjaaGreatDoorPlS1
import Derived.Test.YtkcbebmbmffkjaaGreatDoorPlB8
import Derived.Test.YtkcbebmbmffkjaaGreatDoorPlK
import Derived.Test.YtkcbebmbmffkjaaGreatDoorPlB4
set_option linter.unusedVariables false
set_option linter.unusedSectionVars false
set_option linter.unusedSimpArgs false
set_option maxRecDepth 100000
namespace Go.Am
open Go Go.Proofs
variable [Fuel]
def keysZ : List (List UInt8) := [[98, 49, 54, 48], [98, 52, 48], [98, 51, 48], [98, 50, 48], []]
theorem keyZI_ok : keysZ.all (fun s => (kit_IsKey s some).isSome) = true := by
 obtain ⟨m, h, rfl⟩ := fuel_is ‹Fuel›
 kernel_rfl
theorem keyZ_ok : keysZ.all (fun s => okBool (kit_IsKey s some) (Q_Key s some)) = true := by
 obtain ⟨m, h, rfl⟩ := fuel_is ‹Fuel›
 kernel_rfl
theorem kit_IsKey_Z {s : List UInt8} (h : s ∈ keysZ) (R : Type) (k : Bool → Option R) : kit_IsKey s k = k (keyB s) :=
 nat_bool ok_kit_IsKey.na (args := [.d (.str s)]) (F := @kit_IsKey _ s) (fun _ _ => rfl) (someBool_is (List.all_eq_true.1 keyZI_ok s h)) R k
theorem Q_Key_Z {s : List UInt8} (h : s ∈ keysZ) (R : Type) (k : Bool → Option R) : Q_Key s k = k (keyB s) :=
 nat_bool ok_Q_Key.na (args := [.d (.str s)]) (F := @Q_Key _ s) (fun _ _ => rfl) (okBool_is (List.all_eq_true.1 keyZ_ok s h)).2 R k
theorem keyN_ok : (match kit_IsKey [] some with | some b => b | none => true) = false := by
 obtain ⟨m, h, rfl⟩ := fuel_is ‹Fuel›
 kernel_rfl
theorem keyB_nil : keyB [] = false := by
 have h := keyN_ok
 rw [kit_IsKey_Z (by decide +kernel)] at h
 exact h
abbrev Far (x : Int) : Prop := -4503599627370496 ≤ x ∧ x ≤ 4503599627370496
structure FineB (x : G_Band) : Prop where
 key : x.f_Key ∈ keysZ
 low : Far x.f_Low
 high : Far x.f_High
def bands4 : List G_Band := [⟨[98, 49, 54, 48], 1800000, 2000000⟩, ⟨[98, 52, 48], 7000000, 7300000⟩, ⟨[98, 51, 48], 7300000, 10150000⟩, ⟨[98, 50, 48], 14000000, 14350000⟩]
theorem bands4_fine : ∀ x ∈ bands4, FineB x := by
 intro x hx
 simp only [bands4, List.mem_cons, List.not_mem_nil, or_false] at hx
 rcases hx with rfl | rfl | rfl | rfl <;> exact ⟨by decide +kernel, ⟨by decide, by decide⟩, ⟨by decide, by decide⟩⟩
theorem z39z_loop (l : List G_Band) (hl : l.length ≤ 4) : ∀ (xs : List G_Band) (n i : Nat) (s : G_Stream) (out : List G_Band) (b : Int), l.drop i = xs → xs.length < n → SOk b s → b + (xs.length : Int) ≤ 2000000 → out.length ≤ i →
  ∃ (ys : List G_Band) (s' : G_Stream), SOk (b + (xs.length : Int)) s' ∧ ys.Sublist xs ∧ ∀ (R : Type) (e0 : G_Stream → List G_Band → Option R), z39z_L3 I_z39z n (l.length : Int) (i : Int) s l out e0 = e0 s' (out ++ ys)
 | _, 0, _, _, _, _, _, h, _, _, _ => by omega
 | [], n + 1, i, s, out, b, h, _, hs, hb, ho => ⟨[], s, hs.mono (by simp), List.Sublist.slnil, fun R e0 => by rw [z39z_L3, ge_drop h, List.append_nil]; rfl⟩
 | x :: xs, n + 1, i, s, out, b, h, hn, hs, hb, ho => by
  have h' := drop_cons h
  have hn' : xs.length < n := Nat.lt_of_succ_lt_succ (by simpa only [List.length_cons] using hn)
  obtain ⟨f, s1, z1, e1⟩ := z63z_gives hs 8 (by simp only [List.length_cons] at hb; omega) (by omega)
  cases f with
  | true =>
   obtain ⟨ys, s', g1, g2, g4⟩ := z39z_loop l hl xs n (i + 1) s1 out (b + 1) h'.2.2.1 hn' z1 (by simp only [List.length_cons] at hb; omega) (by omega)
   refine ⟨ys, s', g1.mono (by simp; omega), g2.cons x, fun R e0 => ?_⟩
   rw [z39z_L3, lt_drop h]
   simp only [cond_true, inr_drop h, at_drop h, I_z39z, e1, Bool.not_true, cond_false, w64_succ (show i < 4611686018427387904 by omega)]
   exact g4 R e0
  | false =>
   obtain ⟨ys, s', g1, g2, g4⟩ := z39z_loop l hl xs n (i + 1) s1 (out ++ [x]) (b + 1) h'.2.2.1 hn' z1 (by simp only [List.length_cons] at hb; omega) (by simp; omega)
   refine ⟨x :: ys, s', g1.mono (by simp; omega), g2.cons_cons x, fun R e0 => ?_⟩
   rw [z39z_L3, lt_drop h]
   simp only [cond_true, inr_drop h, at_drop h, I_z39z, e1, Bool.not_false, room1 out x 32 (show out.length ≤ 1000000 by omega) (by omega), w64_succ (show i < 4611686018427387904 by omega)]
   have := g4 R e0
   rw [List.append_assoc] at this
   exact this
theorem z39z_gives {b : Int} {s : G_Stream} (hs : SOk b s) (hb : b ≤ 1000000) :
  ∃ (r : List G_Band) (s' : G_Stream), SOk (b + 4) s' ∧ r.Sublist bands4 ∧ ∀ (R : Type) (k : List G_Band → G_Stream → Option R), z39z s k = k r s' := by
 obtain ⟨ys, s', g1, g2, g4⟩ := z39z_loop bands4 (by decide) bands4 NN 0 s [] b rfl (by have := NN_ok; show 4 < NN; omega) hs (by show b + 4 ≤ _; omega) (by simp)
 refine ⟨ys, s', g1, g2, fun R k => ?_⟩
 simp only [z39z, z39z_]
 exact g4 R _
theorem right_fine {r : List G_Band} (h : r.Sublist bands4) : r.length ≤ 4 ∧ ∀ x ∈ r, FineB x := ⟨h.length_le, fun x hx => bands4_fine x (h.subset hx)⟩
theorem z82z_gives {b : Int} {s : G_Stream} (hs : SOk b s) (hb : b ≤ 1000000) :
  ∃ (r : List G_Band) (s' : G_Stream), SOk (b + 20) s' ∧ r.length ≤ 4 ∧ (∀ x ∈ r, FineB x) ∧ ∀ (R : Type) (k : List G_Band → G_Stream → Option R), z82z s k = k r s' := by
 obtain ⟨r, s1, z1, hr, e1⟩ := z39z_gives hs hb
 obtain ⟨hl, hf⟩ := right_fine hr
 by_cases h0 : r.length = 0
 ·refine ⟨r, s1, z1.mono (by omega), hl, hf, fun R k => ?_⟩
  simp only [z82z, z82z_, I_z82z, e1, decide_eq_false (show ¬ ((r.length : Int) > 0) by omega), cond_false]
 ·obtain ⟨f, s2, z2, e2⟩ := z63z_gives z1 12 (by omega) (by omega)
  have hp : decide ((r.length : Int) > 0) = true := decide_eq_true (by omega)
  cases f with
  | false => exact ⟨r, s2, z2.mono (by omega), hl, hf, fun R k => by simp only [z82z, z82z_, I_z82z, e1, hp, cond_true, e2, cond_false]⟩
  | true =>
   obtain ⟨i, s3, hi0, hi1, z3, e3⟩ := z67z_gives z2 (r.length : Int) (by omega) (by omega)
   obtain ⟨j, rfl⟩ : ∃ j : Nat, i = (j : Int) := ⟨i.toNat, by omega⟩
   have hj : j < r.length := by have := hi1 (by omega); omega
   obtain ⟨x, hx⟩ : ∃ x, r[j]? = some x := ⟨r[j], List.getElem?_eq_getElem hj⟩
   have hxf := hf x (List.mem_of_getElem? hx)
   obtain ⟨ky, s4, hk, z4, e4⟩ := z74z_gives z3 [x.f_Key, [], [98, 50, 48]] (by omega) (by simp) (by simp)
   obtain ⟨lo, s5, l1, l2, z5, e5⟩ := Stream_Odd_gives z4 0 20000 (by omega) (by omega) (by omega) (by omega) (by omega)
   have hh : Mid x.f_High := by
    have := hr.subset (List.mem_of_getElem? hx)
    simp only [bands4, List.mem_cons, List.not_mem_nil, or_false] at this
    rcases this with rfl | rfl | rfl | rfl <;> exact ⟨by decide, by decide⟩
   have w1 : w64 (x.f_High + 1) = x.f_High + 1 := w64_eq (by omega) (by omega)
   obtain ⟨hg, s6, hhg, z6, e6⟩ := z68z_gives z5 [x.f_High, x.f_High + 1, 30000000000, 30000001000, 0] (by omega) (by simp) (by simp)
   have hg' : Far hg := by
    simp only [List.mem_cons, List.not_mem_nil, or_false] at hhg
    omega
   have lo' : Far (w64 (1000 * lo)) := by
    rw [w64_eq (by omega) (by omega)]
    exact ⟨by omega, by omega⟩
   have hk' : ky ∈ keysZ := by
    simp only [List.mem_cons, List.not_mem_nil, or_false] at hk
    rcases hk with rfl | rfl | rfl
    ·exact hxf.key
    all_goals decide +kernel
   have a0 : ∀ {R : Type} (k : G_Band → Option R), at_ r (j : Int) k = k x := fun k => at_nat hx k
   have i0 : ∀ {R : Type} (k : Option R), inr r (j : Int) k = k := fun k => inr_nat hj k
   have a1 : ∀ (y : G_Band) {R : Type} (k : G_Band → Option R), at_ (set_ r (j : Int) y) (j : Int) k = k y := fun y R k => at_nat (by rw [set_nat, List.getElem?_set_self hj]) k
   have a2 : ∀ (y z : G_Band) {R : Type} (k : G_Band → Option R), at_ (set_ (set_ r (j : Int) y) (j : Int) z) (j : Int) k = k z := fun y z R k => at_nat (by rw [set_nat, set_nat, List.getElem?_set_self (by rw [List.length_set]; exact hj)]) k
   refine ⟨set_ (set_ (set_ r (j : Int) ⟨ky, x.f_Low, x.f_High⟩) (j : Int) ⟨ky, w64 (1000 * lo), x.f_High⟩) (j : Int) ⟨ky, w64 (1000 * lo), hg⟩, s6, z6.mono (by omega), by rw [len_set_, len_set_, len_set_]; exact hl, fun y hy => ?_, fun R k => ?_⟩
   ·rcases mem_set' hy with hy | rfl
    ·rcases mem_set' hy with hy | rfl
     ·rcases mem_set' hy with hy | rfl
      ·exact hf y hy
      ·exact ⟨hk', hxf.low, hxf.high⟩
     ·exact ⟨hk', lo', hxf.high⟩
    ·exact ⟨hk', lo', hg'⟩
   ·simp only [z82z, z82z_, I_z82z, e1, hp, cond_true, e2, e3, i0, a0, e4, e5, w1, e6, a1, a2]
def badB (x : G_Band) : Bool := !inB x.f_Low 0 30000000000 || (!inB x.f_High 0 30000000000 || (Int.tmod x.f_Low 1000 != 0 || (Int.tmod x.f_High 1000 != 0 || decide (x.f_High ≤ x.f_Low))))
noncomputable def faultBs : Option G_Band → List G_Band → Int
 | _, [] => 0
 | p, x :: xs => bif !keyB x.f_Key then 5 else bif badB x then 1 else match p with
  | none => faultBs (some x) xs
  | some q => bif decide (x.f_Low < q.f_High) then 7 else faultBs (some x) xs
def dupB : List G_Band → List G_Band → Bool
 | _, [] => false
 | seen, x :: xs => (seen.any fun o => o.f_Key == x.f_Key) || dupB (seen ++ [x]) xs
noncomputable def faultB (d : List G_Band) : Int := bif decide ((d.length : Int) > 30) then 2 else bif faultBs none d != 0 then faultBs none d else bif dupB [] d then 6 else 0
theorem z13z_loop1 (d : List G_Band) (hf : ∀ c ∈ d, FineB c) (hl : d.length ≤ 100000) : ∀ (xs : List G_Band) (n i : Nat) (p : Option G_Band), d.drop i = xs → PrevAt d i p → xs.length < n → ∀ (R : Type) (e0 : List G_Band → Int → Option R) (e1 : List G_Band → Option R),
  z13z_L4 I_z13z n d d (d.length : Int) (i : Int) e0 e1 = bif faultBs p xs != 0 then e0 d (faultBs p xs) else e1 d
 | _, 0, _, _, _, _, h, _, _, _ => by omega
 | [], n + 1, i, p, h, _, _, R, e0, e1 => by rw [z13z_L4, ge_drop h]; rfl
 | c :: cs, n + 1, i, p, h, hp, hn, R, e0, e1 => by
  have h' := drop_cons h
  have hn' : cs.length < n := Nat.lt_of_succ_lt_succ (by simpa only [List.length_cons] using hn)
  have ih := z13z_loop1 d hf hl cs n (i + 1) (some c) h'.2.2.1 (prevAt_next h) hn' R e0 e1
  have hc := hf c (mem_drop h)
  rw [z13z_L4, lt_drop h]
  simp only [I_z13z] at ih
  simp only [cond_true, get_drop h, I_z13z, kit_IsKey_Z hc.key, z62z_is, faultBs, badB, w64_succ (show i < 4611686018427387904 by omega), ih]
  cases keyB c.f_Key with
  | false => rfl
  | true =>
   cases inB c.f_Low 0 30000000000 <;> cases inB c.f_High 0 30000000000 <;> cases Int.tmod c.f_Low 1000 != 0 <;> cases Int.tmod c.f_High 1000 != 0 <;> cases decide (c.f_High ≤ c.f_Low) <;> try rfl
   cases p with
   | none => rw [decide_eq_false (show ¬ ((i : Int) > 0) by unfold PrevAt at hp; omega)]; rfl
   | some q =>
    obtain ⟨h0, ys, hq⟩ := hp
    rw [decide_eq_true (show ((i : Int) > 0) by omega), prev_drop hq h0 (by omega)]
    simp only [Bool.not_true, Bool.not_false, cond_false, cond_true, Bool.or_self]
    cases decide (c.f_Low < q.f_High) <;> rfl
theorem badB_is {c : G_Band} (h : FineB c) : badB c = (!inB c.f_Low 0 30000000000 || (!inB c.f_High (w64 (c.f_Low + 1)) 30000000000 || (Int.tmod c.f_Low 1000 != 0 || Int.tmod c.f_High 1000 != 0))) := by
 have h1 := h.low
 unfold badB
 rw [w64_eq (by omega) (by omega)]
 cases hlo : inB c.f_Low 0 30000000000 with
 | false => rfl
 | true =>
  rw [inB_is] at hlo
  have : inB c.f_High (c.f_Low + 1) 30000000000 = (inB c.f_High 0 30000000000 && !decide (c.f_High ≤ c.f_Low)) := by
   rw [Bool.eq_iff_iff, Bool.and_eq_true, inB_is, inB_is]
   simp only [Bool.not_eq_true', decide_eq_false_iff_not]
   omega
  rw [this]
  cases inB c.f_High 0 30000000000 <;> cases Int.tmod c.f_Low 1000 != 0 <;> cases Int.tmod c.f_High 1000 != 0 <;> cases decide (c.f_High ≤ c.f_Low) <;> rfl
theorem z34z_loop1 (d : List G_Band) (hf : ∀ c ∈ d, FineB c) (hl : d.length ≤ 100000) : ∀ (xs : List G_Band) (n i : Nat) (p : Option G_Band), d.drop i = xs → PrevAt d i p → xs.length < n → ∀ (R : Type) (e0 : List G_Band → Int → Option R) (e1 : List G_Band → Option R),
  z34z_L4 I_z34z n d d (d.length : Int) (i : Int) e0 e1 = bif faultBs p xs != 0 then e0 d (faultBs p xs) else e1 d
 | _, 0, _, _, _, _, h, _, _, _ => by omega
 | [], n + 1, i, p, h, _, _, R, e0, e1 => by rw [z34z_L4, ge_drop h]; rfl
 | c :: cs, n + 1, i, p, h, hp, hn, R, e0, e1 => by
  have h' := drop_cons h
  have hn' : cs.length < n := Nat.lt_of_succ_lt_succ (by simpa only [List.length_cons] using hn)
  have ih := z34z_loop1 d hf hl cs n (i + 1) (some c) h'.2.2.1 (prevAt_next h) hn' R e0 e1
  have hc := hf c (mem_drop h)
  rw [z34z_L4, lt_drop h]
  simp only [I_z34z] at ih
  simp only [cond_true, get_drop h, I_z34z, Q_Key_Z hc.key, Q_in_is, faultBs, badB_is hc, w64_succ (show i < 4611686018427387904 by omega), ih]
  cases keyB c.f_Key with
  | false => rfl
  | true =>
   cases inB c.f_Low 0 30000000000 <;> cases inB c.f_High (w64 (c.f_Low + 1)) 30000000000 <;> cases Int.tmod c.f_Low 1000 != 0 <;> cases Int.tmod c.f_High 1000 != 0 <;> try rfl
   cases p with
   | none => rw [decide_eq_false (show ¬ ((i : Int) > 0) by unfold PrevAt at hp; omega)]; rfl
   | some q =>
    obtain ⟨h0, ys, hq⟩ := hp
    rw [decide_eq_true (show ((i : Int) > 0) by omega), prev_drop hq h0 (by omega)]
    simp only [Bool.not_true, Bool.not_false, cond_false, cond_true, Bool.or_self]
    cases decide (c.f_Low < q.f_High) <;> rfl
theorem contB_is (d : List G_Band) (hl : d.length ≤ 100000) (x : G_Band) (R : Type) (k : Bool → G_Band → Option R) : z33z d x k = k (d.any fun o => o.f_Key == x.f_Key) x := by
 simp only [z33z, z33z_, I_z33z, li_z15z]
 rw [sIndexF_is _ (fun o : G_Band => o.f_Key == x.f_Key) x d (fun y _ R k => rfl) (by have := NN_ok; omega) (by have := NN_ok; omega)]
 rw [idxI_ge]
theorem z35z_is (d : List G_Band) (hl : d.length ≤ 100000) (s : List UInt8) (R : Type) (k : Int → Option R) : z35z d s k = k (idxI (fun o : G_Band => o.f_Key == s) d) := by
 simp only [z35z, z35z_, I_z35z, li_z16z]
 rw [sIndexF_is _ (fun o : G_Band => o.f_Key == s) s d (fun y _ R k => rfl) (by have := NN_ok; omega) (by have := NN_ok; omega)]
theorem take_drop {α : Type} {d xs : List α} {x : α} {i : Nat} (h : d.drop i = x :: xs) : d.take (i + 1) = d.take i ++ [x] := by
 rw [List.take_add_one, (drop_cons h).1]; rfl
theorem z13z_loop2 (d : List G_Band) (hl : d.length ≤ 100000) : ∀ (xs : List G_Band) (n i : Nat), d.drop i = xs → xs.length < n → ∀ (R : Type) (e0 : Int → Option R) (e1 : Option R),
  z13z_L14 I_z13z n d d (d.length : Int) (i : Int) e0 e1 = bif dupB (d.take i) xs then e0 6 else e1
 | _, 0, _, _, h, _, _, _ => by omega
 | [], n + 1, i, h, _, R, e0, e1 => by rw [z13z_L14, ge_drop h]; rfl
 | c :: cs, n + 1, i, h, hn, R, e0, e1 => by
  have h' := drop_cons h
  have hn' : cs.length < n := Nat.lt_of_succ_lt_succ (by simpa only [List.length_cons] using hn)
  have ih := z13z_loop2 d hl cs n (i + 1) h'.2.2.1 hn' R e0 e1
  rw [z13z_L14, lt_drop h]
  simp only [I_z13z] at ih
  simp only [cond_true, get_drop h, I_z13z, w64_succ (show i < 4611686018427387904 by omega), ih, Int.toNat_natCast, contB_is (d.take i) (by rw [List.length_take]; omega), dupB, take_drop h]
  rw [decide_eq_true (show (0 : Int) ≤ (i : Int) by omega), decide_eq_true (show (i : Int) ≤ (d.length : Int) by omega)]
  cases (d.take i).any fun o => o.f_Key == c.f_Key <;> rfl
theorem z34z_loop2 (d : List G_Band) (hl : d.length ≤ 100000) : ∀ (xs : List G_Band) (n i : Nat), d.drop i = xs → xs.length < n → ∀ (R : Type) (e0 : Int → Option R) (e1 : Option R),
  z34z_L14 I_z34z n d d (d.length : Int) (i : Int) e0 e1 = bif dupB (d.take i) xs then e0 6 else e1
 | _, 0, _, _, h, _, _, _ => by omega
 | [], n + 1, i, h, _, R, e0, e1 => by rw [z34z_L14, ge_drop h]; rfl
 | c :: cs, n + 1, i, h, hn, R, e0, e1 => by
  have h' := drop_cons h
  have hn' : cs.length < n := Nat.lt_of_succ_lt_succ (by simpa only [List.length_cons] using hn)
  have ih := z34z_loop2 d hl cs n (i + 1) h'.2.2.1 hn' R e0 e1
  rw [z34z_L14, lt_drop h]
  simp only [I_z34z] at ih
  simp only [cond_true, get_drop h, I_z34z, w64_succ (show i < 4611686018427387904 by omega), ih, Int.toNat_natCast, z35z_is (d.take i) (by rw [List.length_take]; omega), dupB, take_drop h, idxI_ge]
  rw [decide_eq_true (show (0 : Int) ≤ (i : Int) by omega), decide_eq_true (show (i : Int) ≤ (d.length : Int) by omega)]
  cases (d.take i).any fun o => o.f_Key == c.f_Key <;> rfl
theorem z13z_is {d : List G_Band} (hf : ∀ c ∈ d, FineB c) (hl : d.length ≤ 100000) (R : Type) (k : Int → Option R) : z13z d k = k (faultB d) := by
 have h1 : ∀ (R : Type) (e0 : List G_Band → Int → Option R) (e1 : List G_Band → Option R), z13z_L4 I_z13z I_z13z.N d d (d.length : Int) 0 e0 e1 = bif faultBs none d != 0 then e0 d (faultBs none d) else e1 d := fun R e0 e1 => z13z_loop1 d hf hl d I_z13z.N 0 none rfl rfl (show d.length < NN by have := NN_ok; omega) R e0 e1
 have h2 : ∀ (R : Type) (e0 : Int → Option R) (e1 : Option R), z13z_L14 I_z13z I_z13z.N d d (d.length : Int) 0 e0 e1 = bif dupB [] d then e0 6 else e1 := fun R e0 e1 => z13z_loop2 d hl d I_z13z.N 0 rfl (show d.length < NN by have := NN_ok; omega) R e0 e1
 simp only [z13z, z13z_, faultB, h1, h2]
 cases decide ((d.length : Int) > 30) <;> cases faultBs none d != 0 <;> cases dupB [] d <;> rfl
theorem z34z_is {d : List G_Band} (hf : ∀ c ∈ d, FineB c) (hl : d.length ≤ 100000) (R : Type) (k : Int → Option R) : z34z d k = k (faultB d) := by
 have h1 : ∀ (R : Type) (e0 : List G_Band → Int → Option R) (e1 : List G_Band → Option R), z34z_L4 I_z34z I_z34z.N d d (d.length : Int) 0 e0 e1 = bif faultBs none d != 0 then e0 d (faultBs none d) else e1 d := fun R e0 e1 => z34z_loop1 d hf hl d I_z34z.N 0 none rfl rfl (show d.length < NN by have := NN_ok; omega) R e0 e1
 have h2 : ∀ (R : Type) (e0 : Int → Option R) (e1 : Option R), z34z_L14 I_z34z I_z34z.N d d (d.length : Int) 0 e0 e1 = bif dupB [] d then e0 6 else e1 := fun R e0 e1 => z34z_loop2 d hl d I_z34z.N 0 rfl (show d.length < NN by have := NN_ok; omega) R e0 e1
 simp only [z34z, z34z_, faultB, h1, h2]
 cases decide ((d.length : Int) > 30) <;> cases faultBs none d != 0 <;> cases dupB [] d <;> rfl
def inBand (h : Int) (x : G_Band) : Bool := decide (x.f_Low ≤ h) && decide (h < x.f_High)
def bandI (b : List G_Band) (h : Int) : Int := idxI (inBand h) b
def bandA (b : List G_Band) (h : Int) : List UInt8 := ((b.find? (inBand h)).map (·.f_Key)).getD []
theorem log_At_is {b : List G_Band} (hl : b.length ≤ 100000) (h : Int) (R : Type) (k : Int → Option R) : log_At b h k = k (bandI b h) := by
 simp only [log_At, log_At_, I_log_At, li_z19z, bandI]
 rw [sIndexF_is _ (inBand h) h b (fun y _ R k => by
  simp only [log_At_1, log_At_1_, inBand]
  cases decide (y.f_Low ≤ h) <;> rfl) (by have := NN_ok; omega) (by have := NN_ok; omega)]
theorem Q_BandAt_loop (d : List G_Band) (h : Int) (hl : d.length ≤ 100000) : ∀ (xs : List G_Band) (n i : Nat), d.drop i = xs → xs.length < n → ∀ (R : Type) (e0 : List UInt8 → Option R) (e1 : Option R),
  Q_BandAt_L2 NN n h d (d.length : Int) (i : Int) e0 e1 = match xs.find? (inBand h) with | some x => e0 x.f_Key | none => e1
 | _, 0, _, _, h, _, _, _ => by omega
 | [], n + 1, i, hd, _, R, e0, e1 => by rw [Q_BandAt_L2, ge_drop hd]; rfl
 | c :: cs, n + 1, i, hd, hn, R, e0, e1 => by
  have h' := drop_cons hd
  have hn' : cs.length < n := Nat.lt_of_succ_lt_succ (by simpa only [List.length_cons] using hn)
  have ih := Q_BandAt_loop d h hl cs n (i + 1) h'.2.2.1 hn' R e0 e1
  rw [Q_BandAt_L2, lt_drop hd]
  simp only [cond_true, get_drop hd, w64_succ (show i < 4611686018427387904 by omega), ih, List.find?_cons, inBand]
  cases decide (c.f_Low ≤ h) <;> cases decide (h < c.f_High) <;> rfl
theorem Q_BandAt_is {b : List G_Band} (hl : b.length ≤ 100000) (h : Int) (R : Type) (k : List UInt8 → Option R) : Q_BandAt b h k = k (bandA b h) := by
 have hb : ∀ (R : Type) (e0 : List UInt8 → Option R) (e1 : Option R), Q_BandAt_L2 NN NN h b (b.length : Int) 0 e0 e1 = match b.find? (inBand h) with | some x => e0 x.f_Key | none => e1 := fun R e0 e1 => Q_BandAt_loop b h hl b NN 0 rfl (by have := NN_ok; omega) R e0 e1
 simp only [Q_BandAt, Q_BandAt_, hb, bandA]
 cases b.find? (inBand h) <;> rfl
theorem faultBs_key : ∀ (l : List G_Band) (p : Option G_Band), faultBs p l = 0 → ∀ x ∈ l, keyB x.f_Key = true
 | [], _, _, x, h => by cases h
 | y :: ys, p, h, x, hx => by
  unfold faultBs at h
  cases hk : keyB y.f_Key with
  | false => rw [hk] at h; simp at h
  | true =>
   rw [hk] at h
   simp only [Bool.not_true, cond_false] at h
   cases hb : badB y with
   | true => rw [hb] at h; simp at h
   | false =>
    rw [hb] at h
    simp only [cond_false] at h
    have h2 : faultBs (some y) ys = 0 := by
     cases p with
     | none => exact h
     | some q =>
      simp only at h
      cases hd : decide (y.f_Low < q.f_High) with
      | true => rw [hd] at h; simp at h
      | false => rw [hd] at h; exact h
    rcases List.mem_cons.1 hx with rfl | hx
    ·exact hk
    ·exact faultBs_key ys (some y) h2 x hx
theorem dupB_pair : ∀ (l seen : List G_Band), dupB seen l = false → (∀ o ∈ seen, ∀ x ∈ l, o.f_Key ≠ x.f_Key) ∧ l.Pairwise fun a b => a.f_Key ≠ b.f_Key
 | [], _, _ => ⟨fun _ _ _ h => (by cases h), List.Pairwise.nil⟩
 | y :: ys, seen, h => by
  simp only [dupB, Bool.or_eq_false_iff] at h
  obtain ⟨h1, h2⟩ := dupB_pair ys (seen ++ [y]) h.2
  have h3 : ∀ o ∈ seen, o.f_Key ≠ y.f_Key := fun o ho e => by
   have := List.any_eq_false.1 h.1 o ho
   simp [e] at this
  refine ⟨fun o ho x hx => ?_, List.pairwise_cons.2 ⟨fun x hx => h1 y (by simp) x hx, h2⟩⟩
  rcases List.mem_cons.1 hx with rfl | hx
  ·exact h3 o ho
  ·exact h1 o (by simp [ho]) x hx
theorem faultB_right {d : List G_Band} (h : faultB d = 0) : (∀ x ∈ d, x.f_Key ≠ []) ∧ (d.Pairwise fun a b => a.f_Key ≠ b.f_Key) := by
 unfold faultB at h
 cases h1 : decide ((d.length : Int) > 30) with
 | true => rw [h1] at h; simp at h
 | false =>
  rw [h1] at h
  simp only [cond_false] at h
  cases h2 : faultBs none d != 0 with
  | true => rw [h2] at h; simp only [cond_true] at h; rw [h] at h2; cases h2
  | false =>
   rw [h2] at h
   simp only [cond_false] at h
   cases h3 : dupB [] d with
   | true => rw [h3] at h; simp at h
   | false =>
    refine ⟨fun x hx e => ?_, (dupB_pair d [] h3).2⟩
    have := faultBs_key d none (by simpa using h2) x hx
    rw [e, keyB_nil] at this
    cases this
theorem key_one {d : List G_Band} (h : d.Pairwise fun a b => a.f_Key ≠ b.f_Key) {i j : Nat} {x y : G_Band} (hi : d[i]? = some x) (hj : d[j]? = some y) (e : x.f_Key = y.f_Key) : i = j := by
 obtain ⟨h1, rfl⟩ := List.getElem?_eq_some_iff.1 hi
 obtain ⟨h2, rfl⟩ := List.getElem?_eq_some_iff.1 hj
 have hp := List.pairwise_iff_getElem.1 h
 rcases Nat.lt_trichotomy i j with hij | hij | hij
 ·exact absurd e (hp i j h1 h2 hij)
 ·exact hij
 ·exact absurd e.symm (hp j i h2 h1 hij)
theorem bandI_neg {b : List G_Band} (h : faultB b = 0) (x : Int) : decide (bandI b x < 0) = (bandA b x == []) := by
 obtain ⟨h1, h2⟩ := faultB_right h
 unfold bandI bandA
 rcases idxI_cases (inBand x) b with ⟨e1, e2⟩ | ⟨i, y, e1, e2, e3, e4⟩
 ·rw [e1, e2]; rfl
 ·rw [e1, e4, decide_eq_false (by omega)]
  have := h1 y (List.mem_of_getElem? e2)
  simp [this]
theorem bandI_eq {b : List G_Band} (h : faultB b = 0) {x y : Int} (hx : ¬ bandI b x < 0) (hy : ¬ bandI b y < 0) : (bandI b x == bandI b y) = (bandA b x == bandA b y) := by
 obtain ⟨h1, h2⟩ := faultB_right h
 unfold bandI at hx hy
 unfold bandI bandA
 rcases idxI_cases (inBand x) b with ⟨e1, e2⟩ | ⟨i, u, e1, e2, e3, e4⟩
 ·rw [e1] at hx; omega
 ·rcases idxI_cases (inBand y) b with ⟨f1, f2⟩ | ⟨j, v, f1, f2, f3, f4⟩
  ·rw [f1] at hy; omega
  ·rw [e1, f1, e4, f4]
   simp only [Option.map_some, Option.getD_some]
   rw [Bool.eq_iff_iff, beq_iff_eq, beq_iff_eq]
   constructor
   ·intro e
    have : i = j := by omega
    subst this
    rw [e2] at f2
    rw [Option.some.inj f2]
   ·intro e
    rw [key_one h2 e2 f2 e]
end Go.Am
set_option linter.unusedVariables false
set_option linter.unusedSectionVars false
set_option linter.unusedSimpArgs false
set_option maxRecDepth 100000
namespace Go.Am
open Go Go.Proofs
variable [Fuel]
structure FineS (c : G_Spot) : Prop where
 at1 : Mid c.f_At
 hertz : Mid c.f_Hertz
 call : c.f_Call ∈ callsL
 by1 : c.f_By ∈ callsL
def cmpSp (x y : G_Spot) : Int := orL [cmpI x.f_At y.f_At, cmpI x.f_Hertz y.f_Hertz, Lib.compareBytes x.f_Call y.f_Call, Lib.compareBytes x.f_By y.f_By]
theorem ords_cmpSp : Ords cmpSp := .lex (ords_cmpI.on fun c : G_Spot => c.f_At) (.lex (ords_cmpI.on fun c : G_Spot => c.f_Hertz) (.lex (ords_cb.on fun c : G_Spot => c.f_Call) (.lex (ords_cb.on fun c : G_Spot => c.f_By) .nil)))
theorem cmpSp_zero {x y : G_Spot} (h : cmpSp x y = 0) : x = y := by
 unfold cmpSp at h
 rw [orL_zero] at h
 simp only [List.mem_cons, List.not_mem_nil, or_false, forall_eq_or_imp, forall_eq, cmpI_zero, cb_eq_zero] at h
 obtain ⟨h1, h2, h3, h4⟩ := h
 cases x; cases y
 simp only at h1 h2 h3 h4
 subst h1 h2 h3 h4
 rfl
theorem z32z_is (x y : G_Spot) (R : Type) (k : Int → Option R) : z32z x y k = k (cmpSp x y) := by
 simp only [z32z, z32z_, I_z32z, cmpSp, z47z_is, strings_Compare_is]
 rw [z54z_is _ (by simp)]
theorem slices_Compare_twoZ (a b c d : Int) (R : Type) (k : Int → Option R) : z25z [a, b] [c, d] k = k (bif cmpI a c != 0 then cmpI a c else cmpI b d) := by
 obtain ⟨m, e, hm⟩ := NN_succ
 obtain ⟨m, rfl⟩ : ∃ q, m = q + 2 := ⟨m - 2, by omega⟩
 have w1 : w64 (0 + 1) = ((1 : Nat) : Int) := w64_eq (by omega) (by omega)
 have w2 : w64 (((1 : Nat) : Int) + 1) = ((2 : Nat) : Int) := by rw [w64_eq (by omega) (by omega)]; rfl
 have a0 : ∀ {R : Type} (x y : Int) (k : Int → Option R), get_ [x, y] 0 k = k x := fun x y k => get_nat (i := 0) rfl k
 have a1 : ∀ {R : Type} (x y : Int) (k : Int → Option R), get_ [x, y] ((1 : Nat) : Int) k = k y := fun x y k => get_nat (i := 1) rfl k
 have d0 : decide ((0 : Int) < ([a, b].length : Int)) = true := rfl
 have d1 : decide (((1 : Nat) : Int) < ([a, b].length : Int)) = true := rfl
 have d2 : decide (((2 : Nat) : Int) < ([a, b].length : Int)) = false := rfl
 have f0 : decide ((0 : Int) ≥ ([c, d].length : Int)) = false := rfl
 have f1 : decide (((1 : Nat) : Int) ≥ ([c, d].length : Int)) = false := rfl
 have f2 : decide (([a, b].length : Int) < ([c, d].length : Int)) = false := rfl
 simp only [z25z, z25z_]
 rw [show I_z25z.N = m + 2 + 1 from e]
 simp only [z25z_L2, d0, d1, d2, f0, f1, f2, w1, w2, a0, a1, I_z25z, cond_true, cond_false, z47z_is]
 cases h1 : cmpI a c != 0 with
 | true => simp only [cond_true]
 | false =>
  simp only [cond_false]
  cases h2 : cmpI b d != 0 with
  | true => simp only [cond_true]
  | false =>
   have h3 : cmpI b d = 0 := by simpa using h2
   simp only [cond_false, h3]
theorem cmp_Compare_str (a b : List UInt8) (R : Type) (k : Int → Option R) : z56z a b k = k (Lib.compareBytes a b) := by
 simp only [z56z, z56z_, I_z56z, z71z, z71z_, beq_self_eq_true, Bool.not_true, cond_false, bytesLess_is]
 rcases cb_cases a b with h | h | h
 ·rw [h]; rfl
 ·have e := cb_zero a b h
  subst e
  rw [h, beq_self_eq_true]; rfl
 ·have e : (a == b) = false := by
   cases hq : a == b with
   | false => rfl
   | true => have := eq_of_beq hq; subst this; rw [cb_self] at h; cases h
  rw [h, e]; rfl
theorem slices_Compare_twoS (a b c d : List UInt8) (R : Type) (k : Int → Option R) : z17z [a, b] [c, d] k = k (bif Lib.compareBytes a c != 0 then Lib.compareBytes a c else Lib.compareBytes b d) := by
 obtain ⟨m, e, hm⟩ := NN_succ
 obtain ⟨m, rfl⟩ : ∃ q, m = q + 2 := ⟨m - 2, by omega⟩
 have w1 : w64 (0 + 1) = ((1 : Nat) : Int) := w64_eq (by omega) (by omega)
 have w2 : w64 (((1 : Nat) : Int) + 1) = ((2 : Nat) : Int) := by rw [w64_eq (by omega) (by omega)]; rfl
 have a0 : ∀ {R : Type} (x y : List UInt8) (k : List UInt8 → Option R), get_ [x, y] 0 k = k x := fun x y k => get_nat (i := 0) rfl k
 have a1 : ∀ {R : Type} (x y : List UInt8) (k : List UInt8 → Option R), get_ [x, y] ((1 : Nat) : Int) k = k y := fun x y k => get_nat (i := 1) rfl k
 have d0 : decide ((0 : Int) < ([a, b].length : Int)) = true := rfl
 have d1 : decide (((1 : Nat) : Int) < ([a, b].length : Int)) = true := rfl
 have d2 : decide (((2 : Nat) : Int) < ([a, b].length : Int)) = false := rfl
 have f0 : decide ((0 : Int) ≥ ([c, d].length : Int)) = false := rfl
 have f1 : decide (((1 : Nat) : Int) ≥ ([c, d].length : Int)) = false := rfl
 have f2 : decide (([a, b].length : Int) < ([c, d].length : Int)) = false := rfl
 simp only [z17z, z17z_]
 rw [show I_z17z.N = m + 2 + 1 from e]
 simp only [z17z_L2, d0, d1, d2, f0, f1, f2, w1, w2, a0, a1, I_z17z, cond_true, cond_false, cmp_Compare_str]
 cases h1 : Lib.compareBytes a c != 0 with
 | true => simp only [cond_true]
 | false =>
  simp only [cond_false]
  cases h2 : Lib.compareBytes b d != 0 with
  | true => simp only [cond_true]
  | false =>
   have h3 : Lib.compareBytes b d = 0 := by simpa using h2
   simp only [cond_false, h3]
theorem z10z_is (x y : G_Spot) (R : Type) (k : Int → Option R) : z10z x y k = k (cmpSp x y) := by
 simp only [z10z, z10z_, I_z10z, slices_Compare_twoZ, slices_Compare_twoS, cmpSp, orL]
 cases h1 : cmpI x.f_At y.f_At != 0 with
 | true => simp only [cond_true, h1]
 | false =>
  cases h2 : cmpI x.f_Hertz y.f_Hertz != 0 with
  | true => simp only [cond_true, cond_false, h2]
  | false =>
   simp only [cond_false, h2]
   cases h3 : Lib.compareBytes x.f_Call y.f_Call != 0 with
   | true => simp only [cond_true]
   | false =>
    simp only [cond_false]
    cases h4 : Lib.compareBytes x.f_By y.f_By != 0 with
    | true => rfl
    | false =>
     have : Lib.compareBytes x.f_By y.f_By = 0 := by simpa using h4
     rw [this]; rfl
theorem sortS_ord {l : List G_Spot} (hl : l.length ≤ 20) (R : Type) (k : List G_Spot → Option R) : z38z l k = k (sortI cmpSp l) := by
 simp only [z38z, z38z_, I_z38z, li_z6z]
 exact sSta_is cmpSp (fun _ => True) (fun x y _ _ => z10z_is x y) l (fun _ _ => trivial) hl (by have := NN_ok; omega) (by have := NN_ok; omega) _ (fun l a b R k => by rw [li_z8z]) k
theorem compS_is {l : List G_Spot} (hl : l.length ≤ 100000) (R : Type) (k : List G_Spot → Option R) : z26z l k = k (compactP eq_G_Spot l) := by
 rw [li_z26z]
 exact sComp_is eq_G_Spot (fun _ => True) (fun x y _ _ R k => rfl) l (by have := NN_ok; omega) (by have := NN_ok; omega) (fun _ _ => trivial) k
theorem catS_is {a b : List G_Spot} (ha : a.length ≤ 100000) (hb : b.length ≤ 100000) (R : Type) (k : List G_Spot → Option R) : z23z [a, b] k = k (a ++ b) := by
 rw [li_z23z]; exact sCat_two a b ha hb (by omega) (by have := NN_ok; omega) k
theorem equalS_is {l : List G_Spot} (hl : l.length ≤ 1000000) (R : Type) (k : Bool → Option R) : z20z l l k = k true := by
 rw [li_z20z]; exact sEqual_same (by have := NN_ok; omega) (by have := NN_ok; omega) (fun x => by rw [(eq_G_Spot_is x x).2 rfl]; rfl) k
theorem equalSn_is (R : Type) (k : Bool → Option R) : z45z [] k = k true := by
 rw [li_z45z]; exact sEqualN_nil (by have := NN_ok; omega) k
theorem z50z_loop (m : Nat) : ∀ (n i : Nat) (at0 : Int) (s : G_Stream) (out : List G_Spot) (b : Int), m - i < n → i ≤ m → SOk (b + 20 * (i : Int)) s → b ≤ 1000000 → 0 ≤ at0 → at0 ≤ 20 * (i : Int) → out.length = i → (∀ c ∈ out, FineS c) → m ≤ 600 →
  ∃ (r : List G_Spot) (s' : G_Stream), SOk (b + 20 * (m : Int)) s' ∧ r.length = m ∧ (∀ c ∈ r, FineS c) ∧ ∀ (R : Type) (e0 : G_Stream → List G_Spot → Option R), z50z_L4 I_z50z n at0 (m : Int) (i : Int) s out e0 = e0 s' r
 | 0, i, _, _, _, _, h, _, _, _, _, _, _, _, _ => by omega
 | n + 1, i, at0, s, out, b, h, hi, hs, hb, h1, h2, ho, hf, hm6 => by
  by_cases hc : i < m
  ·obtain ⟨p, s1, hp, z1, e1⟩ := z68z_gives hs [0, 1, 5, 20] (by omega) (by simp) (by simp)
   obtain ⟨hz, s2, hhz, z2, e2⟩ := z68z_gives z1 [7000000, 7100000, 7299999, 7300000, 14000000, 14010000, 14020000, 14020000, 1800000, 5000000] (by omega) (by simp) (by simp)
   obtain ⟨cl, s3, hcl, z3, e3⟩ := z84z_gives z2 (by omega)
   obtain ⟨bd, s4, hbd, z4, e4⟩ := z74z_gives z3 [[119, 49, 97, 119], [110, 49, 109, 109]] (by omega) (by simp) (by simp)
   obtain ⟨f, s5, z5, e5⟩ := z63z_gives z4 80 (by omega) (by omega)
   simp only [List.mem_cons, List.not_mem_nil, or_false] at hp hhz
   have ea : w64 (at0 + p) = at0 + p := w64_eq (by omega) (by omega)
   have hcard : ∃ (c : G_Spot) (s' : G_Stream), FineS c ∧ SOk (b + 20 * ((i + 1 : Nat) : Int)) s' ∧ ∀ (R : Type) (e0 : G_Stream → List G_Spot → Option R), z50z_L4 I_z50z (n + 1) at0 (m : Int) (i : Int) s out e0 = z50z_L4 I_z50z n (at0 + p) (m : Int) ((i + 1 : Nat) : Int) s' (out ++ [c]) e0 := by
    cases f with
    | false =>
     refine ⟨⟨at0 + p, hz, cl, bd⟩, s5, ⟨⟨by simp only; omega, by simp only; omega⟩, ⟨by simp only; omega, by simp only; omega⟩, hcl, sub_mem hbd (by decide +kernel)⟩, z5.mono (by omega), fun R e0 => ?_⟩
     rw [z50z_L4]
     simp only [I_z50z, decide_eq_true (show (i : Int) < (m : Int) by omega), cond_true, e1, e2, e3, e4, e5, ea, cond_false, room1 out _ 48 (show out.length ≤ 1000000 by omega) (by omega)]
     rw [w64_succ (by omega)]
    | true =>
     obtain ⟨x1, t1, x11, x12, y1, f1⟩ := Stream_Odd_gives z5 0 100 (by omega) (by omega) (by omega) (by omega) (by omega)
     obtain ⟨x2, t2, x21, x22, y2, f2⟩ := Stream_Odd_gives y1 0 30000000000 (by omega) (by omega) (by omega) (by omega) (by omega)
     obtain ⟨x4, t4, hx4, y4, f4⟩ := z74z_gives y2 [[], [119, 49, 97, 119]] (by omega) (by simp) (by simp)
     refine ⟨⟨x1, x2, cl, x4⟩, t4, ⟨⟨by simp only; omega, by simp only; omega⟩, ⟨by simp only; omega, by simp only; omega⟩, hcl, sub_mem hx4 (by decide +kernel)⟩, y4.mono (by omega), fun R e0 => ?_⟩
     rw [z50z_L4]
     simp only [I_z50z, decide_eq_true (show (i : Int) < (m : Int) by omega), cond_true, e1, e2, e3, e4, e5, ea, f1, f2, f4, room1 out _ 48 (show out.length ≤ 1000000 by omega) (by omega)]
     rw [w64_succ (by omega)]
   obtain ⟨c, s', hcf, zs, hstep⟩ := hcard
   obtain ⟨r, s'', g1, g2, g3, g4⟩ := z50z_loop m n (i + 1) (at0 + p) s' (out ++ [c]) b (by omega) (by omega) zs hb (by omega) (by omega) (by simp [ho]) (fun x hx => by
    rcases List.mem_append.1 hx with h | h
    ·exact hf x h
    ·simp at h; rw [h]; exact hcf) hm6
   exact ⟨r, s'', g1, g2, g3, fun R e0 => by rw [hstep, g4]⟩
  ·refine ⟨out, s, hs.mono (by omega), by omega, hf, fun R e0 => ?_⟩
   rw [z50z_L4, decide_eq_false (by omega)]; rfl
theorem z50z_gives {b : Int} {s : G_Stream} (hs : SOk b s) (hb : b ≤ 1000000) (m : Nat) (hm : m ≤ 20) :
  ∃ (r : List G_Spot) (s' : G_Stream), SOk (b + 20 * (m : Int)) s' ∧ r.length ≤ m ∧ (∀ c ∈ r, FineS c) ∧ ∀ (R : Type) (k : List G_Spot → G_Stream → Option R), z50z s (m : Int) k = k r s' := by
 obtain ⟨r, s', g1, g2, g3, g4⟩ := z50z_loop m NN 0 0 s [] b (by have := NN_ok; omega) (by omega) (hs.mono (by omega)) hb (by omega) (by omega) rfl (fun c h => by cases h) (by omega)
 have g4' : ∀ (R : Type) (e0 : G_Stream → List G_Spot → Option R), z50z_L4 I_z50z I_z50z.N 0 (m : Int) 0 s [] e0 = e0 s' r := g4
 refine ⟨compactP eq_G_Spot (sortI cmpSp r), s', g1, ?_, fun c h => g3 c (sortI_mem.1 (compactP_sub h)), fun R k => ?_⟩
 ·have := compactP_len eq_G_Spot (sortI cmpSp r)
  have := sortI_length cmpSp r
  omega
 ·simp only [z50z, z50z_, g4']
  simp only [I_z50z, sortS_ord (show r.length ≤ 20 by omega), compS_is (show (sortI cmpSp r).length ≤ 100000 by rw [sortI_length]; omega)]
noncomputable def chkS (c : G_Spot) : Int := bif !momB c.f_At then 1 else bif !inB c.f_Hertz 0 30000000000 then 1 else bif !callB c.f_Call then 3 else bif !callB c.f_By then 3 else 0
noncomputable def faultSs : Option G_Spot → List G_Spot → Int
 | _, [] => 0
 | p, c :: cs => bif chkS c != 0 then chkS c else match p with
  | none => faultSs (some c) cs
  | some q => bif decide (cmpSp q c ≥ 0) then 7 else faultSs (some c) cs
theorem z31z_loop (d : List G_Spot) (hf : ∀ c ∈ d, FineS c) (hl : d.length ≤ 100000) : ∀ (xs : List G_Spot) (n i : Nat) (p : Option G_Spot), d.drop i = xs → PrevAt d i p → xs.length < n → ∀ (R : Type) (k : Int → Option R),
  z31z_L4 I_z31z n d d (d.length : Int) (i : Int) k (k 0) = k (faultSs p xs)
 | _, 0, _, _, _, _, h, _, _ => by omega
 | [], n + 1, i, p, h, _, _, _, _ => by rw [z31z_L4, ge_drop h]; rfl
 | c :: cs, n + 1, i, p, h, hp, hn, R, k => by
  have h' := drop_cons h
  have ih := z31z_loop d hf hl cs n (i + 1) (some c) h'.2.2.1 (prevAt_next h) (Nat.lt_of_succ_lt_succ (by simpa only [List.length_cons] using hn)) R k
  have hc := hf c (mem_drop h)
  rw [z31z_L4, lt_drop h]
  simp only [I_z31z] at ih
  simp only [cond_true, get_drop h, I_z31z, z73z_is, z62z_is, call_Is_is hc.call, call_Is_is hc.by1, z32z_is, faultSs, chkS, w64_succ (show i < 4611686018427387904 by omega), ih]
  cases momB c.f_At <;> cases inB c.f_Hertz 0 30000000000 <;> cases callB c.f_Call <;> cases callB c.f_By <;> try rfl
  cases p with
  | none => rw [decide_eq_false (show ¬ ((i : Int) > 0) by unfold PrevAt at hp; omega)]; rfl
  | some q =>
   obtain ⟨h0, ys, hq⟩ := hp
   rw [decide_eq_true (show ((i : Int) > 0) by omega), prev_drop hq h0 (by omega)]
   simp only [Bool.not_true, cond_false, cond_true, bne_self_eq_false]
   cases decide (cmpSp q c ≥ 0) <;> rfl
theorem z51z_loop (d : List G_Spot) (hf : ∀ c ∈ d, FineS c) (hl : d.length ≤ 100000) : ∀ (xs : List G_Spot) (n i : Nat) (p : Option G_Spot), d.drop i = xs → PrevAt d i p → xs.length < n → ∀ (R : Type) (k : Int → Option R),
  z51z_L4 I_z51z n d d (d.length : Int) (i : Int) k (k 0) = k (faultSs p xs)
 | _, 0, _, _, _, _, h, _, _ => by omega
 | [], n + 1, i, p, h, _, _, _, _ => by rw [z51z_L4, ge_drop h]; rfl
 | c :: cs, n + 1, i, p, h, hp, hn, R, k => by
  have h' := drop_cons h
  have ih := z51z_loop d hf hl cs n (i + 1) (some c) h'.2.2.1 (prevAt_next h) (Nat.lt_of_succ_lt_succ (by simpa only [List.length_cons] using hn)) R k
  have hc := hf c (mem_drop h)
  rw [z51z_L4, lt_drop h]
  simp only [I_z51z] at ih
  simp only [cond_true, get_drop h, I_z51z, Q_Moment_is, Q_in_is, Q_Call_is hc.call, Q_Call_is hc.by1, z10z_is, faultSs, chkS, w64_succ (show i < 4611686018427387904 by omega), ih]
  cases momB c.f_At <;> cases inB c.f_Hertz 0 30000000000 <;> cases callB c.f_Call <;> cases callB c.f_By <;> try rfl
  cases p with
  | none => rw [decide_eq_false (show ¬ ((i : Int) > 0) by unfold PrevAt at hp; omega)]; rfl
  | some q =>
   obtain ⟨h0, ys, hq⟩ := hp
   rw [decide_eq_true (show ((i : Int) > 0) by omega), prev_drop hq h0 (by omega)]
   simp only [Bool.not_true, cond_false, cond_true, bne_self_eq_false]
   cases decide (cmpSp q c ≥ 0) <;> rfl
noncomputable def faultS (d : List G_Spot) : Int := bif decide ((d.length : Int) > 2000) then 2 else faultSs none d
theorem z31z_is {d : List G_Spot} (hf : ∀ c ∈ d, FineS c) (hl : d.length ≤ 100000) (R : Type) (k : Int → Option R) : z31z d k = k (faultS d) := by
 have h : z31z_L4 I_z31z I_z31z.N d d (d.length : Int) 0 k (k 0) = k (faultSs none d) := z31z_loop d hf hl d I_z31z.N 0 none rfl rfl (show d.length < NN by have := NN_ok; omega) R k
 simp only [z31z, z31z_, faultS, h]
 cases decide ((d.length : Int) > 2000) <;> rfl
theorem z51z_is {d : List G_Spot} (hf : ∀ c ∈ d, FineS c) (hl : d.length ≤ 100000) (R : Type) (k : Int → Option R) : z51z d k = k (faultS d) := by
 have h : z51z_L4 I_z51z I_z51z.N d d (d.length : Int) 0 k (k 0) = k (faultSs none d) := z51z_loop d hf hl d I_z51z.N 0 none rfl rfl (show d.length < NN by have := NN_ok; omega) R k
 simp only [z51z, z51z_, faultS, h]
 cases decide ((d.length : Int) > 2000) <;> rfl
theorem sortfS_cmp {l : List G_Spot} (hl : l.length ≤ 100000) (R : Type) (k : List G_Spot → Option R) : z46z l k = k (sortI cmpSp l) :=
 X_sortf_one ords_cmpSp (by omega) (fun x _ y _ h => cmpSp_zero h) (fun x _ y _ => z32z_is x y) k
theorem sortfS_ord {l : List G_Spot} (hl : l.length ≤ 100000) (R : Type) (k : List G_Spot → Option R) : z57z l k = k (sortI cmpSp l) :=
 X_sortf_one ords_cmpSp (by omega) (fun x _ y _ h => cmpSp_zero h) (fun x _ y _ => z10z_is x y) k
def mergeS (a b : List G_Spot) : List G_Spot := compactP eq_G_Spot (sortI cmpSp (a ++ b))
def mergedS (a b : List G_Spot) : List G_Spot × Int := bif decide (((mergeS a b).length : Int) > 2000) then ([], 2) else (mergeS a b, 0)
theorem mergeS_len (a b : List G_Spot) : (mergeS a b).length ≤ a.length + b.length := by
 have h1 := compactP_len eq_G_Spot (sortI cmpSp (a ++ b))
 have h2 := sortI_length cmpSp (a ++ b)
 simp at h2
 unfold mergeS; omega
theorem band_Merge_is {a b : List G_Spot} (ha : ∀ c ∈ a, FineS c) (hb : ∀ c ∈ b, FineS c) (hla : a.length ≤ 1000) (hlb : b.length ≤ 1000) (R : Type) (k : List G_Spot → Int → Option R) :
  band_Merge a b k = bif orL [faultS a, faultS b] != 0 then k [] (orL [faultS a, faultS b]) else k (mergedS a b).1 (mergedS a b).2 := by
 have hloop : ∀ (R : Type) (e0 : List G_Spot → List G_Spot → Int → Option R) (e1 : List G_Spot → List G_Spot → Option R), band_Merge_L2 I_band_Merge I_band_Merge.N a b ([a, b].length : Int) 0 [a, b] e0 e1 = bif orL [faultS a, faultS b] != 0 then e0 a b (orL [faultS a, faultS b]) else e1 a b := fun R e0 e1 => by
  obtain ⟨m, e, hm⟩ := NN_succ
  obtain ⟨m, rfl⟩ : ∃ q, m = q + 2 := ⟨m - 2, by omega⟩
  have w1 : w64 (0 + 1) = ((1 : Nat) : Int) := w64_eq (by omega) (by omega)
  have w2 : w64 (((1 : Nat) : Int) + 1) = ((2 : Nat) : Int) := by rw [w64_eq (by omega) (by omega)]; rfl
  have i0 : ∀ {R : Type} (k : Option R), inr [a, b] 0 k = k := fun k => inr_nat (i := 0) (by simp) k
  have a0 : ∀ {R : Type} (k : List G_Spot → Option R), at_ [a, b] 0 k = k a := fun k => at_nat (i := 0) rfl k
  have i1 : ∀ {R : Type} (k : Option R), inr [a, b] ((1 : Nat) : Int) k = k := fun k => inr_nat (i := 1) (by simp) k
  have a1 : ∀ {R : Type} (k : List G_Spot → Option R), at_ [a, b] ((1 : Nat) : Int) k = k b := fun k => at_nat (i := 1) rfl k
  have d0 : decide ((0 : Int) < ([a, b].length : Int)) = true := rfl
  have d1 : decide (((1 : Nat) : Int) < ([a, b].length : Int)) = true := rfl
  have d2 : decide (((2 : Nat) : Int) < ([a, b].length : Int)) = false := rfl
  rw [show I_band_Merge.N = m + 2 + 1 from e]
  simp only [band_Merge_L2, d0, d1, d2, w1, w2, i0, i1, a0, a1, I_band_Merge, cond_true, cond_false, z31z_is ha (show a.length ≤ 100000 by omega), z31z_is hb (show b.length ≤ 100000 by omega), orL]
  cases h1 : faultS a != 0 with
  | true => simp only [cond_true, h1]
  | false =>
   simp only [cond_false]
   cases h2 : faultS b != 0 with
   | true => simp only [cond_true, h2]
   | false => simp only [cond_false, bne_self_eq_false]
 have hco : ∀ (R : Type) (k : List G_Spot → Option R), z26z (sortI cmpSp (a ++ b)) k = k (mergeS a b) := fun R k => compS_is (by rw [sortI_length]; simp; omega) R k
 simp only [I_band_Merge] at hloop
 simp only [band_Merge, band_Merge_, I_band_Merge, hloop, catS_is (show a.length ≤ 100000 by omega) (show b.length ≤ 100000 by omega), sortfS_cmp (show (a ++ b).length ≤ 100000 by simp; omega), hco, mergedS]
 cases orL [faultS a, faultS b] != 0 <;> cases decide (((mergeS a b).length : Int) > 2000) <;> rfl
theorem Q_SpotsOf_is {a b : List G_Spot} (hla : a.length ≤ 1000) (hlb : b.length ≤ 1000) (R : Type) (k : List G_Spot → Int → Option R) :
  Q_SpotsOf a b k = k (mergedS a b).1 (mergedS a b).2 := by
 have hco : ∀ (R : Type) (k : List G_Spot → Option R), z26z (sortI cmpSp (a ++ b)) k = k (mergeS a b) := fun R k => compS_is (by rw [sortI_length]; simp; omega) R k
 simp only [Q_SpotsOf, Q_SpotsOf_, I_Q_SpotsOf, catS_is (show a.length ≤ 100000 by omega) (show b.length ≤ 100000 by omega), sortfS_ord (show (a ++ b).length ≤ 100000 by simp; omega), hco, mergedS]
 cases decide (((mergeS a b).length : Int) > 2000) <;> rfl
end Go.Am
