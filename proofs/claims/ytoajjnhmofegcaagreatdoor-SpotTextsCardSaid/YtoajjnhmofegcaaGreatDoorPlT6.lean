/- The plain law, in Lean alone: T6, T7. No condition: lemmas for the claim. -/
import Derived.Test.YtoajjnhmofegcaaGreatDoorPlT4
import Derived.Test.YtoajjnhmofegcaaGreatDoorPlS1
set_option linter.unusedVariables false
set_option linter.unusedSectionVars false
set_option linter.unusedSimpArgs false
set_option maxRecDepth 100000
namespace Go.Am
open Go Go.Proofs
variable [Fuel]
abbrev Wide (x : Int) : Prop := -1000000000000000000 ≤ x ∧ x ≤ 1000000000000000000
theorem call_Is_W {s : List UInt8} (hl : s.length ≤ 1000000) (R : Type) (k : Bool → Option R) : call_Is s k = k (callB s) := by
 have e : callB s = callG s := by unfold callB; rw [call_Is_g hl]; rfl
 rw [call_Is_g hl, e]
theorem Q_Call_W {s : List UInt8} (hs : ascB s) (hl : s.length ≤ 1000000) (R : Type) (k : Bool → Option R) : Q_Call s k = k (callB s) := by
 have e : callB s = callG s := by unfold callB; rw [call_Is_g hl]; rfl
 rw [Q_Call_g hs hl, e]
def numB (s : List UInt8) : Bool := (numG s).isSome
theorem numG_B {s : List UInt8} : numG s = if numB s then some (numQ s) else none := by
 unfold numB
 cases h : numG s with
 | none => rfl
 | some n => rw [numQ_G h]; rfl
theorem Numbers_loop (d : List (List UInt8)) (hd : ∀ w ∈ d, w.length ≤ 1000000) (hl : d.length ≤ 1000) : ∀ (xs : List (List UInt8)) (n i : Nat) (acc : List Int), d.drop i = xs → xs.length < n → acc.length ≤ i → ∀ (R : Type) (e0 : Bool → Option R) (e1 : List Int → Option R),
  kit_Numbers_L3 I_kit_Numbers n d (d.length : Int) (i : Int) acc (fun b _ => e0 b) e1 = bif xs.all numB then e1 (acc ++ xs.map numQ) else e0 false
 | _, 0, _, _, _, h, _, _, _, _ => by omega
 | [], n + 1, i, acc, h, _, _, R, e0, e1 => by
  rw [kit_Numbers_L3, ge_drop h, List.map_nil, List.append_nil]; rfl
 | w :: ws, n + 1, i, acc, h, hn, ha, R, e0, e1 => by
  have h' := drop_cons h
  have hlt := h'.2.1
  have ih := Numbers_loop d hd hl ws n (i + 1) (acc ++ [numQ w]) h'.2.2.1 (Nat.lt_of_succ_lt_succ (by simpa only [List.length_cons] using hn)) (by simp; omega) R e0 e1
  have hN : ∀ k : Int → Bool → Option R, I_kit_Numbers.kit_Number w 15 k = (numG w).elim (k 0 false) fun n => k n true := fun k => kit_Number_g (hd w (mem_drop h)) R k
  rw [kit_Numbers_L3, lt_drop h, cond_true, get_drop h, hN, List.all_cons, numG_B]
  cases numB w with
  | false => rfl
  | true =>
   show (bif !true then e0 false else bif decide ((acc.length + [numQ w].length) * 8 ≤ roomBytes') then _ else none) = _
   rw [Bool.not_true, cond_false, room1 acc _ 8 (by omega) (by omega), cond_true, w64_succ (show i < 4611686018427387904 by omega), ih, List.append_assoc]; rfl
theorem kit_Numbers_g {d : List (List UInt8)} (hd : ∀ w ∈ d, w.length ≤ 1000000) (hl : d.length ≤ 1000) (R : Type) (k : List Int → Bool → Option R) : kit_Numbers d k = bif d.all numB then k (d.map numQ) true else k [] false := by
 exact Numbers_loop d hd hl d NN 0 [] rfl (by have := NN_ok; omega) (Nat.zero_le _) R (fun b => k [] b) (fun e => k e true)
theorem QNumbers_loop (d : List (List UInt8)) (hd : ∀ w ∈ d, w.length ≤ 1000000) (hl : d.length ≤ 1000) : ∀ (xs : List (List UInt8)) (n i : Nat) (b : Bool) (acc : List Int), d.drop i = xs → xs.length < n → acc.length ≤ i → ∀ (R : Type) (e0 : Bool → List Int → Option R),
  Q_NumbersIn_L4 I_Q_NumbersIn n 15 b d (d.length : Int) (i : Int) acc e0 = e0 (b && xs.all numB) (acc ++ xs.map numQ)
 | _, 0, _, _, _, _, h, _, _, _ => by omega
 | [], n + 1, i, b, acc, h, _, _, R, e0 => by
  rw [Q_NumbersIn_L4, ge_drop h, List.map_nil, List.append_nil, List.all_nil, Bool.and_true]; rfl
 | w :: ws, n + 1, i, b, acc, h, hn, ha, R, e0 => by
  have h' := drop_cons h
  have hlt := h'.2.1
  have ih := fun b => QNumbers_loop d hd hl ws n (i + 1) b (acc ++ [numQ w]) h'.2.2.1 (Nat.lt_of_succ_lt_succ (by simpa only [List.length_cons] using hn)) (by simp; omega) R e0
  have hN : ∀ k : Int → Bool → Option R, I_Q_NumbersIn.Q_Number w 15 k = k (numQ w) (numB w) := fun k => Q_Number_g (hd w (mem_drop h)) R k
  rw [Q_NumbersIn_L4, lt_drop h, cond_true, get_drop h, hN, room1 acc _ 8 (by omega) (by omega), cond_true, w64_succ (show i < 4611686018427387904 by omega), ih, ih, List.all_cons, List.append_assoc]
  cases b <;> cases numB w <;> rfl
theorem Q_NumbersIn_g {d : List (List UInt8)} (hd : ∀ w ∈ d, w.length ≤ 1000000) (hl : d.length ≤ 1000) (R : Type) (k : List Int → Bool → Option R) : Q_NumbersIn d 15 k = k (d.map numQ) (d.all numB) :=
 QNumbers_loop d hd hl d NN 0 true [] rfl (by have := NN_ok; omega) (Nat.zero_le _) R (fun e15 e16 => k e16 e15)
theorem words_len {l : List UInt8} (hl : l.length ≤ 1000000) : ∀ w ∈ splitG 32 l, w.length ≤ 1000000 := fun w hw => by have := splitG_len 32 l w hw; omega
theorem goG_all {α : Type} (f : List UInt8 → Option α) (P : α → Prop) (ended : Bool) : ∀ (ls : List (List UInt8)) (i : Nat) (acc r : List α), (∀ l ∈ ls, ∀ c, f l = some c → P c) → (∀ c ∈ acc, P c) → goG f ended i ls acc = .inr r → (∀ c ∈ r, P c) ∧ r.length ≤ acc.length + ls.length
 | [], i, acc, r, _, ha, h => by
  have : acc = r := Sum.inr.inj h
  subst this
  exact ⟨ha, Nat.le_refl _⟩
 | l :: ls, i, acc, r, hf, ha, h => by
  rw [goG_cons] at h
  cases hc : (if !ended && ls == [] then none else f l) with
  | none => rw [hc] at h; cases h
  | some a =>
   rw [hc] at h
   have hfa : f l = some a := by
    split at hc
    ·cases hc
    ·exact hc
   have := goG_all f P ended ls (i + 1) (acc ++ [a]) r (fun l' hl' => hf l' (List.mem_cons_of_mem _ hl')) (fun c hcc => by
    rcases List.mem_append.1 hcc with h1 | h1
    ·exact ha c h1
    ·rw [List.mem_singleton.1 h1]; exact hf l (by simp) a hfa) h
   refine ⟨this.1, ?_⟩
   have h2 := this.2
   simp only [List.length_append, List.length_cons, List.length_nil] at h2 ⊢
   omega
end Go.Am
set_option linter.unusedVariables false
set_option linter.unusedSectionVars false
set_option linter.unusedSimpArgs false
set_option maxRecDepth 100000
namespace Go.Am
open Go Go.Proofs
variable [Fuel]
theorem digs_asc (u : Nat) : ascB (Lib.decDigits u) := by
 induction u using Nat.strongRecOn with
 | _ u ih =>
  intro x hx
  rw [Lib.decDigits] at hx
  have hone : ∀ d, d < 10 → (UInt8.ofNat (48 + d)).toNat < 128 := by decide
  split at hx
  ·rename_i hu
   rw [List.mem_singleton] at hx
   rw [hx]; exact hone u hu
  ·rcases List.mem_append.1 hx with h | h
   ·exact ih (u / 10) (by omega) x h
   ·rw [List.mem_singleton] at h
    rw [h]; exact hone _ (Nat.mod_lt _ (by omega))
theorem itoa_asc (n : Int) : ascB (Lib.itoa n) := by
 unfold Lib.itoa
 split
 ·intro x hx
  rcases List.mem_cons.1 hx with h | h
  ·rw [h]; decide
  ·exact digs_asc _ x h
 ·exact digs_asc _
theorem itoa_len {n : Int} (h : Wide n) : (Lib.itoa n).length ≤ 21 := by
 have hd : ∀ u, u < 10 ^ 20 → (Lib.decDigits u).length ≤ 20 := by
  have : ∀ k u, u < 10 ^ (k + 1) → (Lib.decDigits u).length ≤ k + 1 := by
   intro k
   induction k with
   | zero =>
    intro u hu
    rw [Lib.decDigits, dif_pos (by omega)]; simp
   | succ k ih =>
    intro u hu
    rw [Lib.decDigits]
    split
    ·simp
    ·rw [List.length_append]
     have := ih (u / 10) (by rw [Nat.pow_succ] at hu; omega)
     simp; omega
  exact this 19
 have h20 : (10 : Nat) ^ 20 = 100000000000000000000 := by decide
 unfold Lib.itoa
 split
 ·have := hd n.natAbs (by omega)
  simp; omega
 ·have := hd n.toNat (by omega)
  omega
theorem Itoa_g {n : Int} (h : Wide n) (R : Type) (k : List UInt8 → Option R) : strconv_Itoa n k = k (Lib.itoa n) := by
 show (bif in64 n then k (Lib.itoa n) else none) = _
 have : in64 n = true := by unfold in64; simp; omega
 rw [this]; rfl
theorem lens_le {n : Nat} : ∀ {ws : List (List UInt8)}, (∀ w ∈ ws, w.length ≤ n) → Lib.lens ws ≤ n * ws.length
 | [], _ => by simp [Lib.lens]
 | w :: ws, h => by
  have h1 := h w (by simp)
  have h2 := lens_le (n := n) (ws := ws) fun v hv => h v (List.mem_cons_of_mem _ hv)
  simp only [Lib.lens, List.map_cons, List.sum_cons, List.length_cons] at h2 ⊢
  rw [Nat.mul_succ]
  omega
theorem join_len {n : Nat} {ws : List (List UInt8)} {sep : List UInt8} (h : ∀ w ∈ ws, w.length ≤ n) : (Lib.join ws sep).length ≤ sep.length * ws.length + n * ws.length := by
 cases ws with
 | nil => rw [Lib.join_nil]; simp
 | cons w ws =>
  have := lens_le h
  rw [Lib.join_length]
  have h2 : sep.length * ws.length ≤ sep.length * (w :: ws).length := Nat.mul_le_mul_left _ (by simp)
  omega
theorem join_asc {ws : List (List UInt8)} {sep : List UInt8} (h : ∀ w ∈ ws, ascB w) (hs : ascB sep) : ascB (Lib.join ws sep) := by
 cases ws with
 | nil => rw [Lib.join_nil]; intro x hx; cases hx
 | cons w ws =>
  rw [Lib.join_cons]
  intro x hx
  rcases List.mem_append.1 hx with h1 | h1
  ·exact h w (by simp) x h1
  ·unfold Lib.joinTail at h1
   obtain ⟨l, hl, hxl⟩ := List.mem_flatten.1 h1
   obtain ⟨v, hv, rfl⟩ := List.mem_map.1 hl
   rcases List.mem_append.1 hxl with h2 | h2
   ·exact hs x h2
   ·exact h v (List.mem_cons_of_mem _ hv) x h2
theorem Join_g {ws : List (List UInt8)} {sep : List UInt8} (hl : ws.length ≤ 1000) (hw : ∀ w ∈ ws, w.length ≤ 1000000) (hs : sep.length ≤ 1000) (R : Type) (k : List UInt8 → Option R) : strings_Join ws sep k = k (Lib.join ws sep) := by
 have e : ws.map (fun x => x) = ws := List.map_id' ws
 have h1 := join_len (sep := sep) hw
 have h2 : sep.length * ws.length ≤ 1000 * 1000 := Nat.mul_le_mul hs hl
 have h3 : 1000000 * ws.length ≤ 1000000 * 1000 := Nat.mul_le_mul_left _ hl
 show (bif decide (ws.length ≤ 140737488355328) && decide ((Lib.join (ws.map fun x => x) sep).length ≤ 140737488355328) then k (Lib.join (ws.map fun x => x) sep) else none) = _
 rw [e, decide_eq_true (by omega), decide_eq_true (by omega)]; rfl
theorem ascB_app {a b : List UInt8} (ha : ascB a) (hb : ascB b) : ascB (a ++ b) := fun x hx => by
 rcases List.mem_append.1 hx with h | h
 ·exact ha x h
 ·exact hb x h
theorem ascB_one {x : UInt8} (h : x.toNat < 128) : ascB [x] := fun y hy => by rw [List.mem_singleton.1 hy]; exact h
theorem ascB_take {a : List UInt8} (n : Nat) (ha : ascB a) : ascB (a.take n) := fun x hx => ha x (List.mem_of_mem_take hx)
theorem ascB_drop {a : List UInt8} (n : Nat) (ha : ascB a) : ascB (a.drop n) := fun x hx => ha x (List.mem_of_mem_drop hx)
theorem strOk_g {a b : List UInt8} (h : a.length + b.length ≤ 9000000) : strOk a b = true := by
 unfold strOk
 exact decide_eq_true (by omega)
theorem Changed_gives {b : Int} {s : G_Stream} (hs : SOk b s) (hb : b ≤ 1000000) {t ls : List UInt8} (ht : t.length ≤ 1000000) (ha : ascB t) (hl : ls.length ≤ 1000) (hla : ascB ls) :
  ∃ r s', r.length ≤ t.length + ls.length + 1 ∧ r.length ≤ (if t = [] then ls.length else t.length + 1) ∧ ascB r ∧ SOk (b + 3) s' ∧ ∀ (R : Type) (k : List UInt8 → G_Stream → Option R), Stream_Changed s t ls k = k r s' := by
 cases htn : t == [] with
 | true =>
  have he := beq_iff_eq.1 htn
  subst he
  exact ⟨ls, s, by simp, by simp, hla, hs.mono (by omega), fun R k => rfl⟩
 | false =>
  have hne : t ≠ [] := beq_eq_false_iff_ne.1 htn
  have hpos := List.length_pos_iff.2 hne
  cases hln : ls == [] with
  | true =>
   have he := beq_iff_eq.1 hln
   subst he
   refine ⟨[], s, by simp, by rw [if_neg hne]; simp, (fun x hx => by cases hx), hs.mono (by omega), fun R k => ?_⟩
   show Stream_Changed_ I_Stream_Changed s t [] k = _
   unfold Stream_Changed_
   rw [htn]; rfl
  | false =>
   have hlne : ls ≠ [] := beq_eq_false_iff_ne.1 hln
   have hlpos := List.length_pos_iff.2 hlne
   obtain ⟨i, s1, i1, i2, z1, e1⟩ := Stream_Next_gives hs (t.length : Int) (by omega) (by omega)
   obtain ⟨j, s2, j1, j2, z2, e2⟩ := Stream_Next_gives z1 (ls.length : Int) (by omega) (by omega)
   obtain ⟨q, s3, q1, q2, z3, e3⟩ := Stream_Next_gives z2 3 (by omega) (by omega)
   have i2 := i2 (by omega)
   have j2 := j2 (by omega)
   obtain ⟨m, rfl⟩ : ∃ m : Nat, i = (m : Int) := ⟨i.toNat, by omega⟩
   obtain ⟨p, rfl⟩ : ∃ p : Nat, j = (p : Int) := ⟨j.toNat, by omega⟩
   have hm : m < t.length := by omega
   have hp : p < ls.length := by omega
   obtain ⟨x, hx⟩ : ∃ x, ls[p]? = some x := ⟨_, List.getElem?_eq_getElem hp⟩
   have hxa := hla x (List.mem_of_getElem? hx)
   have f1 : ∀ (R : Type) (k : Int → G_Stream → Option R), I_Stream_Changed.Stream_Next s (t.length : Int) k = k (m : Int) s1 := e1
   have f2 : ∀ (R : Type) (k : Int → G_Stream → Option R), I_Stream_Changed.Stream_Next s1 (ls.length : Int) k = k (p : Int) s2 := e2
   have f3 : ∀ (R : Type) (k : Int → G_Stream → Option R), I_Stream_Changed.Stream_Next s2 3 k = k q s3 := e3
   have g1 : (decide (0 ≤ (m : Int)) && decide ((m : Int) ≤ (t.length : Int))) = true := by rw [decide_eq_true (by omega), decide_eq_true (by omega)]; rfl
   have g2 : (decide (0 ≤ (x.toNat : Int)) && decide ((x.toNat : Int) < 128)) = true := by rw [decide_eq_true (by omega), decide_eq_true (by omega)]; rfl
   have g3 : (decide (0 ≤ ((m + 1 : Nat) : Int)) && decide (((m + 1 : Nat) : Int) ≤ (t.length : Int))) = true := by rw [decide_eq_true (by omega), decide_eq_true (by omega)]; rfl
   have hw : w64 ((m : Int) + 1) = ((m + 1 : Nat) : Int) := w64_succ (by omega)
   have n1 : ((m : Int)).toNat = m := by omega
   have n2 : (((m + 1 : Nat) : Int)).toNat = m + 1 := by omega
   have lt : (t.take m).length = m := by rw [List.length_take]; omega
   have ld : (t.drop (m + 1)).length = t.length - (m + 1) := List.length_drop
   have ld0 : (t.drop m).length = t.length - m := List.length_drop
   have s1k : strOk (t.take m) [x] = true := strOk_g (by rw [lt]; simp; omega)
   have s2k : strOk (t.take m ++ [x]) (t.drop (m + 1)) = true := strOk_g (by rw [List.length_append, lt, ld]; simp; omega)
   have s3k : strOk (t.take m ++ [x]) (t.drop m) = true := strOk_g (by rw [List.length_append, lt, ld0]; simp; omega)
   have s4k : strOk (t.take m) (t.drop (m + 1)) = true := strOk_g (by rw [lt, ld]; omega)
   have a1 := ascB_take m ha
   have a2 := ascB_drop (m + 1) ha
   have a3 := ascB_drop m ha
   have ax := ascB_one hxa
   by_cases c0 : q = 0
   ·subst c0
    refine ⟨t.take m ++ [x] ++ t.drop (m + 1), s3, ?_, ?_, ascB_app (ascB_app a1 ax) a2, z3.mono (by omega), fun R k => ?_⟩
    ·rw [List.length_append, List.length_append, lt, ld]; simp; omega
    ·rw [if_neg hne, List.length_append, List.length_append, lt, ld]; simp; omega
    ·show Stream_Changed_ I_Stream_Changed s t ls k = _
     unfold Stream_Changed_
     rw [htn, hln, cond_false, cond_false, f1, f2, get_nat hx, f3, i32_u8, u8_back, g1, g2, hw, g3, n1, n2, s1k, s2k]
     rfl
   ·have c0' : (q == 0) = false := beq_eq_false_iff_ne.2 c0
    by_cases c1 : q = 1
    ·subst c1
     refine ⟨t.take m ++ [x] ++ t.drop m, s3, ?_, ?_, ascB_app (ascB_app a1 ax) a3, z3.mono (by omega), fun R k => ?_⟩
     ·rw [List.length_append, List.length_append, lt, ld0]; simp; omega
     ·rw [if_neg hne, List.length_append, List.length_append, lt, ld0]; simp; omega
     ·show Stream_Changed_ I_Stream_Changed s t ls k = _
      unfold Stream_Changed_
      rw [htn, hln, cond_false, cond_false, f1, f2, get_nat hx, f3, i32_u8, u8_back, g1, g2, hw, g3, n1, n2, s1k, s3k]
      rfl
    ·have c1' : (q == 1) = false := beq_eq_false_iff_ne.2 c1
     refine ⟨t.take m ++ t.drop (m + 1), s3, ?_, ?_, ascB_app a1 a2, z3.mono (by omega), fun R k => ?_⟩
     ·rw [List.length_append, lt, ld]; omega
     ·rw [if_neg hne, List.length_append, lt, ld]; omega
     ·show Stream_Changed_ I_Stream_Changed s t ls k = _
      unfold Stream_Changed_
      rw [htn, hln, cond_false, cond_false, f1, f2, get_nat hx, f3, c0', c1', cond_false, cond_false, g1, hw, g3, n1, n2, s4k]
      rfl
end Go.Am
