/- The plain law, in Lean alone: X1. No condition: lemmas for the claim. -/
import Derived.Test.YtocbeijefjbpgaaGreatDoorPlN1
set_option linter.unusedVariables false
set_option linter.unusedSectionVars false
set_option linter.unusedSimpArgs false
set_option maxRecDepth 100000
namespace Go.Am
open Go Go.Proofs
variable [Fuel]
structure FineE (a : G_Entrant) : Prop where
 call : a.f_Call ∈ callsL
 cat : a.f_Category ∈ keysT
 pts : Mid a.f_Points
 loc : a.f_Locator = [] ∨ a.f_Locator ∈ locL
noncomputable def locOk (s : List UInt8) : Bool := bif s == [] then true else locB s
theorem club_loc_step {s : List UInt8} (h : s = [] ∨ s ∈ locL) {R : Type} (a K : Option R) : (bif !(s == []) then club_isLocator s (fun r => bif !r then a else K) else K) = bif !locOk s then a else K := by
 rcases h with rfl | h
 ·rfl
 ·rw [club_isLocator_is h]
  unfold locOk
  cases s == [] <;> rfl
theorem Q_loc_step {s : List UInt8} (h : s = [] ∨ s ∈ locL) {R : Type} (a K : Option R) : (bif !(s == []) then Q_locator s (fun r => bif !r then a else K) else K) = bif !locOk s then a else K := by
 rcases h with rfl | h
 ·rfl
 ·rw [Q_locator_is h]
  unfold locOk
  cases s == [] <;> rfl
theorem Stream_Entrants_L6_gives (ct : List UInt8) (hct : ct ∈ keysT) (calls : List (List UInt8)) (hcalls : ∀ c ∈ calls, c ∈ callsL) (hl : calls.length ≤ 10) (n0 i0 : Int) (cats : List (List UInt8)) : ∀ (xs : List (List UInt8)) (n j : Nat) (s : G_Stream) (out : List G_Entrant) (b : Int), calls.drop j = xs → xs.length < n → SOk b s → b + 40 * (xs.length : Int) ≤ 200000 → out.length + xs.length ≤ 1000 → (∀ c ∈ out, FineE c) →
  ∃ (r : List G_Entrant) (s' : G_Stream), SOk (b + 40 * (xs.length : Int)) s' ∧ r.length ≤ out.length + xs.length ∧ (∀ c ∈ r, FineE c) ∧ ∀ (R : Type) (e0 : Int → Int → G_Stream → List (List UInt8) → List G_Entrant → Option R), Stream_Entrants_L6 I_Stream_Entrants n ct n0 i0 (calls.length : Int) (j : Int) s cats calls out e0 = e0 n0 i0 s' cats r
 | _, 0, _, _, _, _, _, h, _, _, _, _ => by omega
 | [], n + 1, j, s, out, b, hd, _, hs, hb, ho, hf => ⟨out, s, hs.mono (by simp), by simp, hf, fun R e0 => by rw [Stream_Entrants_L6, ge_drop hd]; rfl⟩
 | x :: xs, n + 1, j, s, out, b, hd, hn, hs, hb, ho, hf => by
  have h' := drop_cons hd
  simp only [List.length_cons] at hn hb ho
  have hx := hcalls x (mem_drop hd)
  obtain ⟨f, s1, z1, e1⟩ := Stream_Flip_gives hs 3 (by omega) (by omega)
  have hj : w64 ((j : Int) + 1) = ((j + 1 : Nat) : Int) := w64_succ (by have := h'.2.1; omega)
  have hstart : ∀ (R : Type) (e0 : Int → Int → G_Stream → List (List UInt8) → List G_Entrant → Option R), Stream_Entrants_L6 I_Stream_Entrants (n + 1) ct n0 i0 (calls.length : Int) (j : Int) s cats calls out e0 = Stream_Entrants_L6 I_Stream_Entrants (n + 1) ct n0 i0 (calls.length : Int) (j : Int) s cats calls out e0 := fun R e0 => rfl
  cases f with
  | true =>
   obtain ⟨r, s', g1, g2, g3, g4⟩ := Stream_Entrants_L6_gives ct hct calls hcalls hl n0 i0 cats xs n (j + 1) s1 out (b + 30) h'.2.2.1 (by omega) (z1.mono (by omega)) (by omega) (by omega) hf
   refine ⟨r, s', g1.mono (by simp only [List.length_cons]; omega), by simp only [List.length_cons]; omega, g3, fun R e0 => ?_⟩
   rw [Stream_Entrants_L6, lt_drop hd]
   simp only [I_Stream_Entrants] at g4
   simp only [cond_true, inr_drop hd, at_drop hd, I_Stream_Entrants, e1, hj]
   exact g4 R e0
  | false =>
   obtain ⟨p, s2, hp, z2, e2⟩ := Stream_Pick_gives z1 [0, 80, 80, 90, 100, 1000] (by omega) (by simp) (by simp)
   obtain ⟨lo, s3, hlo, z3, e3⟩ := Stream_Some_gives z2 [[], [107, 112, 50, 48, 108, 102]] (by omega) (by simp) (by simp)
   obtain ⟨f2, s4, z4, e4⟩ := Stream_Flip_gives z3 80 (by omega) (by omega)
   simp only [List.mem_cons, List.not_mem_nil, or_false] at hp
   have hlo' : lo = [] ∨ lo ∈ locL := by
    simp only [List.mem_cons, List.not_mem_nil, or_false] at hlo
    rcases hlo with h | h
    ·exact .inl h
    ·right; rw [h]; decide
   have hone : ∃ (c : G_Entrant) (t : G_Stream), FineE c ∧ SOk (b + 40) t ∧ ∀ (R : Type) (e0 : Int → Int → G_Stream → List (List UInt8) → List G_Entrant → Option R), Stream_Entrants_L6 I_Stream_Entrants (n + 1) ct n0 i0 (calls.length : Int) (j : Int) s cats calls out e0 = Stream_Entrants_L6 I_Stream_Entrants n ct n0 i0 (calls.length : Int) ((j + 1 : Nat) : Int) t cats calls (out ++ [c]) e0 := by
    cases f2 with
    | false =>
     refine ⟨⟨x, ct, p, lo⟩, s4, ⟨hx, hct, ⟨by simp only; omega, by simp only; omega⟩, hlo'⟩, z4.mono (by omega), fun R e0 => ?_⟩
     rw [Stream_Entrants_L6, lt_drop hd]
     simp only [cond_true, cond_false, inr_drop hd, at_drop hd, I_Stream_Entrants, e1, e2, e3, e4, hj, room1 out _ 56 (show out.length ≤ 1000000 by omega) (by omega)]
    | true =>
     obtain ⟨c1, t1, q1, y1, f1⟩ := Stream_Some_gives z4 [x, []] (by omega) (by simp) (by simp)
     obtain ⟨c2, t2, q2, y2, f2⟩ := Stream_Some_gives y1 [ct, [65]] (by omega) (by simp) (by simp)
     obtain ⟨c3, t3, q31, q32, y3, f3⟩ := Stream_Odd_gives y2 0 1000000000000 (by omega) (by omega) (by omega) (by omega) (by omega)
     obtain ⟨c4, t4, q4, y4, f4⟩ := Stream_Some_gives y3 [[], [107, 112, 50, 48]] (by omega) (by simp) (by simp)
     have r1 : c1 ∈ callsL := by
      simp only [List.mem_cons, List.not_mem_nil, or_false] at q1
      rcases q1 with h | h
      ·rw [h]; exact hx
      ·rw [h]; decide
     have r2 : c2 ∈ keysT := by
      simp only [List.mem_cons, List.not_mem_nil, or_false] at q2
      rcases q2 with h | h
      ·rw [h]; exact hct
      ·rw [h]; decide
     have r4 : c4 = [] ∨ c4 ∈ locL := by
      simp only [List.mem_cons, List.not_mem_nil, or_false] at q4
      rcases q4 with h | h
      ·exact .inl h
      ·right; rw [h]; decide
     refine ⟨⟨c1, c2, c3, c4⟩, t4, ⟨r1, r2, ⟨by simp only; omega, by simp only; omega⟩, r4⟩, y4.mono (by omega), fun R e0 => ?_⟩
     rw [Stream_Entrants_L6, lt_drop hd]
     simp only [cond_true, cond_false, inr_drop hd, at_drop hd, I_Stream_Entrants, e1, e2, e3, e4, f1, f2, f3, f4, hj, room1 out _ 56 (show out.length ≤ 1000000 by omega) (by omega)]
   obtain ⟨c, t, hc, zt, hstep⟩ := hone
   obtain ⟨r, s', g1, g2, g3, g4⟩ := Stream_Entrants_L6_gives ct hct calls hcalls hl n0 i0 cats xs n (j + 1) t (out ++ [c]) (b + 40) h'.2.2.1 (by omega) zt (by omega) (by simp only [List.length_append, List.length_cons, List.length_nil]; omega) (fun y hy => by
    rcases List.mem_append.1 hy with hy | hy
    ·exact hf y hy
    ·simp at hy; rw [hy]; exact hc)
   exact ⟨r, s', g1.mono (by simp only [List.length_cons]; omega), by simp only [List.length_append, List.length_cons, List.length_nil] at g2 ⊢; omega, g3, fun R e0 => by rw [hstep, g4]⟩
theorem Stream_Entrants_gives {b : Int} {s : G_Stream} (hs : SOk b s) (hb : b ≤ 90000) :
  ∃ (r : List G_Entrant) (s' : G_Stream), SOk (b + 400) s' ∧ r.length ≤ 10 ∧ (∀ c ∈ r, FineE c) ∧ ∀ (R : Type) (k : List G_Entrant → G_Stream → Option R), Stream_Entrants s k = k r s' := by
 obtain ⟨m, em, hm⟩ := NN_succ
 obtain ⟨m, rfl⟩ : ∃ q, m = q + 2 := ⟨m - 2, by omega⟩
 have em : NN = m + 2 + 1 := em
 let cs : List (List UInt8) := [[107, 49, 97, 98], [107, 49, 97, 98, 47, 52], [111, 104, 50, 97, 98, 99], [111, 104, 50, 97, 98, 100], [119, 49, 97, 119]]
 let ts : List (List UInt8) := [[97, 108, 108], [99, 111, 100, 101]]
 have hcs : ∀ c ∈ cs, c ∈ callsL := by decide +kernel
 obtain ⟨r1, s1, a1, a2, a3, a4⟩ := Stream_Entrants_L6_gives [97, 108, 108] (by decide) cs hcs (by decide) 2 0 ts cs NN 0 s [] b rfl (by have := NN_ok; show 5 < NN; omega) hs (by show b + 40 * 5 ≤ _; omega) (by decide) (fun c h => by cases h)
 obtain ⟨r2, s2, b1, b2, b3, b4⟩ := Stream_Entrants_L6_gives [99, 111, 100, 101] (by decide) cs hcs (by decide) 2 1 ts cs NN 0 s1 r1 (b + 200) rfl (by have := NN_ok; show 5 < NN; omega) (a1.mono (by show b + 40 * 5 ≤ _; omega)) (by show b + 200 + 40 * 5 ≤ _; omega) (by have : r1.length ≤ 0 + 5 := a2; show r1.length + 5 ≤ 1000; omega) a3
 refine ⟨r2, s2, b1.mono (by show b + 200 + 40 * 5 ≤ _; omega), by have h1 : r1.length ≤ 0 + 5 := a2; have h2 : r2.length ≤ r1.length + 5 := b2; omega, b3, fun R k => ?_⟩
 have c1 : ∀ e0 : Int → Int → G_Stream → List (List UInt8) → List G_Entrant → Option R, Stream_Entrants_L6 I_Stream_Entrants I_Stream_Entrants.N [97, 108, 108] 2 0 5 0 s ts cs [] e0 = e0 2 0 s1 ts r1 := fun e0 => a4 R e0
 have c2 : ∀ e0 : Int → Int → G_Stream → List (List UInt8) → List G_Entrant → Option R, Stream_Entrants_L6 I_Stream_Entrants I_Stream_Entrants.N [99, 111, 100, 101] 2 1 5 0 s1 ts cs r1 e0 = e0 2 1 s2 ts r2 := fun e0 => b4 R e0
 have w1 : w64 (0 + 1) = 1 := w64_eq (by omega) (by omega)
 have w2 : w64 (1 + 1) = 2 := w64_eq (by omega) (by omega)
 have t0 : ∀ {R : Type} (k : List UInt8 → Option R), inr ts 0 (at_ ts 0 k) = k [97, 108, 108] := fun k => rfl
 have t1 : ∀ {R : Type} (k : List UInt8 → Option R), inr ts 1 (at_ ts 1 k) = k [99, 111, 100, 101] := fun k => rfl
 show Stream_Entrants_L3 I_Stream_Entrants I_Stream_Entrants.N 2 0 s ts [] (fun e105 e106 => k e106 e105) = k r2 s2
 rw [show I_Stream_Entrants.N = m + 2 + 1 from em, Stream_Entrants_L3, decide_eq_true (show (0 : Int) < 2 by omega), cond_true, t0]
 refine (c1 _).trans ?_
 simp only [w1]
 rw [Stream_Entrants_L3, decide_eq_true (show (1 : Int) < 2 by omega), cond_true, t1]
 refine (c2 _).trans ?_
 simp only [w2]
 rw [Stream_Entrants_L3, decide_eq_false (show ¬ (2 : Int) < 2 by omega)]
 rfl
noncomputable def chkE (c : G_Entrant) : Int := bif !callB c.f_Call then 3 else bif !keyB c.f_Category then 5 else bif !inB c.f_Points 0 1000000000000 then 1 else bif !locOk c.f_Locator then 3 else 0
def cmpE (x y : G_Entrant) : Int := orL [Lib.compareBytes x.f_Category y.f_Category, Lib.compareBytes x.f_Call y.f_Call]
theorem ords_lt {α : Type} {c : α → α → Int} (h : Ords c) {x y z : α} (h1 : c x y < 0) (h2 : c y z < 0) : c x z < 0 := by
 have a := h.trans x y z
 have b := h.anti x z
 have d := h.trans z x y
 have e := h.anti y z
 omega
theorem ords_cmpE : Ords cmpE := .lex (ords_cb.on fun c : G_Entrant => c.f_Category) (.lex (ords_cb.on fun c : G_Entrant => c.f_Call) .nil)
noncomputable def faultEs : Option G_Entrant → List G_Entrant → Int
 | _, [] => 0
 | p, c :: cs => bif chkE c != 0 then chkE c else match p with
  | none => faultEs (some c) cs
  | some q => bif decide (cmpE q c ≥ 0) then 7 else faultEs (some c) cs
theorem club_CheckEntrants_loop (d : List G_Entrant) (hf : ∀ c ∈ d, FineE c) (hl : d.length ≤ 100000) : ∀ (xs : List G_Entrant) (n i : Nat) (p : Option G_Entrant), d.drop i = xs → PrevAt d i p → xs.length < n → ∀ (R : Type) (k : Int → Option R),
  club_CheckEntrants_L4 I_club_CheckEntrants n d d (d.length : Int) (i : Int) k (k 0) = k (faultEs p xs)
 | _, 0, _, _, _, _, h, _, _ => by omega
 | [], n + 1, i, p, h, _, _, _, _ => by rw [club_CheckEntrants_L4, ge_drop h]; rfl
 | c :: cs, n + 1, i, p, h, hp, hn, R, k => by
  have h' := drop_cons h
  have ih := club_CheckEntrants_loop d hf hl cs n (i + 1) (some c) h'.2.2.1 (prevAt_next h) (by simp at hn; omega) R k
  have hc := hf c (mem_drop h)
  rw [club_CheckEntrants_L4, lt_drop h]
  simp only [I_club_CheckEntrants] at ih
  simp only [cond_true, get_drop h, I_club_CheckEntrants, kit_Outside_is, call_Is_is hc.call, kit_IsKeyT_is hc.cat, strings_Compare_is, club_loc_step hc.loc, faultEs, chkE, w64_succ (show i < 4611686018427387904 by omega), ih]
  cases callB c.f_Call <;> cases keyB c.f_Category <;> cases inB c.f_Points 0 1000000000000 <;> cases locOk c.f_Locator <;> try rfl
  cases p with
  | none => rw [decide_eq_false (show ¬ ((i : Int) > 0) by unfold PrevAt at hp; omega)]; rfl
  | some q =>
   obtain ⟨h0, ys, hq⟩ := hp
   rw [decide_eq_true (show ((i : Int) > 0) by omega), prev_drop hq h0 (by omega), prev_drop hq h0 (by omega), cmp_Or__int_is _ (by simp)]
   simp only [Bool.not_true, cond_false, cond_true, bne_self_eq_false]
   show (bif decide (cmpE q c ≥ 0) then k 7 else _) = _
   cases decide (cmpE q c ≥ 0) <;> rfl
theorem Q_EntrantsFault_loop (d : List G_Entrant) (hf : ∀ c ∈ d, FineE c) (hl : d.length ≤ 100000) : ∀ (xs : List G_Entrant) (n i : Nat) (p : Option G_Entrant), d.drop i = xs → PrevAt d i p → xs.length < n → ∀ (R : Type) (k : Int → Option R),
  Q_EntrantsFault_L4 I_Q_EntrantsFault n d d (d.length : Int) (i : Int) k (k 0) = k (faultEs p xs)
 | _, 0, _, _, _, _, h, _, _ => by omega
 | [], n + 1, i, p, h, _, _, _, _ => by rw [Q_EntrantsFault_L4, ge_drop h]; rfl
 | c :: cs, n + 1, i, p, h, hp, hn, R, k => by
  have h' := drop_cons h
  have ih := Q_EntrantsFault_loop d hf hl cs n (i + 1) (some c) h'.2.2.1 (prevAt_next h) (by simp at hn; omega) R k
  have hc := hf c (mem_drop h)
  rw [Q_EntrantsFault_L4, lt_drop h]
  simp only [I_Q_EntrantsFault] at ih
  simp only [cond_true, get_drop h, I_Q_EntrantsFault, Q_in_is, Q_Call_is hc.call, Q_KeyT_is hc.cat, slices_Compare_two, Q_loc_step hc.loc, faultEs, chkE, w64_succ (show i < 4611686018427387904 by omega), ih]
  cases callB c.f_Call <;> cases keyB c.f_Category <;> cases inB c.f_Points 0 1000000000000 <;> cases locOk c.f_Locator <;> try rfl
  cases p with
  | none => rw [decide_eq_false (show ¬ ((i : Int) > 0) by unfold PrevAt at hp; omega)]; rfl
  | some q =>
   obtain ⟨h0, ys, hq⟩ := hp
   rw [decide_eq_true (show ((i : Int) > 0) by omega), prev_drop hq h0 (by omega), prev_drop hq h0 (by omega)]
   simp only [Bool.not_true, cond_false, cond_true, bne_self_eq_false]
   show (bif decide (cmpE q c ≥ 0) then k 7 else _) = _
   cases decide (cmpE q c ≥ 0) <;> rfl
noncomputable def faultE (d : List G_Entrant) : Int := bif decide ((d.length : Int) > 500) then 2 else faultEs none d
theorem club_CheckEntrants_is {d : List G_Entrant} (hf : ∀ c ∈ d, FineE c) (hl : d.length ≤ 100000) (R : Type) (k : Int → Option R) : club_CheckEntrants d k = k (faultE d) := by
 have h : club_CheckEntrants_L4 I_club_CheckEntrants I_club_CheckEntrants.N d d (d.length : Int) 0 k (k 0) = k (faultEs none d) := club_CheckEntrants_loop d hf hl d I_club_CheckEntrants.N 0 none rfl rfl (show d.length < NN by have := NN_ok; omega) R k
 simp only [club_CheckEntrants, club_CheckEntrants_, faultE, h]
 cases decide ((d.length : Int) > 500) <;> rfl
theorem Q_EntrantsFault_is {d : List G_Entrant} (hf : ∀ c ∈ d, FineE c) (hl : d.length ≤ 100000) (R : Type) (k : Int → Option R) : Q_EntrantsFault d k = k (faultE d) := by
 have h : Q_EntrantsFault_L4 I_Q_EntrantsFault I_Q_EntrantsFault.N d d (d.length : Int) 0 k (k 0) = k (faultEs none d) := Q_EntrantsFault_loop d hf hl d I_Q_EntrantsFault.N 0 none rfl rfl (show d.length < NN by have := NN_ok; omega) R k
 simp only [Q_EntrantsFault, Q_EntrantsFault_, faultE, h]
 cases decide ((d.length : Int) > 500) <;> rfl
theorem faultEs_up : ∀ (l : List G_Entrant) (p : Option G_Entrant), faultEs p l = 0 → (∀ q, p = some q → ∀ c ∈ l, cmpE q c < 0) ∧ l.Pairwise (fun a b => cmpE a b < 0) ∧ ∀ c ∈ l, chkE c = 0
 | [], _, _ => ⟨fun _ _ _ h => (by cases h), .nil, fun _ h => (by cases h)⟩
 | x :: xs, p, h => by
  unfold faultEs at h
  cases hx : chkE x != 0 with
  | true => rw [hx] at h; simp only [cond_true] at h; rw [h] at hx; cases hx
  | false =>
   rw [hx, cond_false] at h
   have hx0 : chkE x = 0 := by simpa using hx
   have sub : faultEs (some x) xs = 0 := by
    cases p with
    | none => exact h
    | some q =>
     simp only at h
     cases hq : decide (cmpE q x ≥ 0) with
     | true => rw [hq] at h; cases h
     | false => rw [hq] at h; exact h
   obtain ⟨g1, g2, g3⟩ := faultEs_up xs (some x) sub
   refine ⟨fun q hq c hc => ?_, List.Pairwise.cons (fun c hc => g1 x rfl c hc) g2, fun c hc => ?_⟩
   ·subst hq
    simp only at h
    have hlt : cmpE q x < 0 := by
     cases hq : decide (cmpE q x ≥ 0) with
     | true => rw [hq] at h; cases h
     | false => have := of_decide_eq_false hq; omega
    rcases List.mem_cons.1 hc with rfl | hc
    ·exact hlt
    ·exact ords_lt ords_cmpE hlt (g1 x rfl c hc)
   ·rcases List.mem_cons.1 hc with rfl | hc
    ·exact hx0
    ·exact g3 c hc
theorem faultE_up {l : List G_Entrant} (h : faultE l = 0) (hl : l.length ≤ 500) : l.Pairwise (fun a b => cmpE a b < 0) ∧ ∀ c ∈ l, chkE c = 0 := by
 unfold faultE at h
 rw [decide_eq_false (by omega), cond_false] at h
 exact (faultEs_up l none h).2
end Go.Am
