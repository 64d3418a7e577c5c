/- The plain law, in Lean alone: H1. No condition: lemmas for the claim. -/
import Derived.Test.YtfifleplhegkdaaGreatDoorPlC2
set_option linter.unusedVariables false
set_option linter.unusedSectionVars false
set_option linter.unusedSimpArgs false
set_option maxRecDepth 100000
namespace Go.Am
open Go Go.Proofs
variable [Fuel]
def zeroC : G_Contact := ⟨0, 0, [], [], 0, 0, [], []⟩
structure FineH (c : G_Change) : Prop where
 no : Mid c.f_No
 kind : Mid c.f_Kind
 was : Fine c.f_Was
 is : Fine c.f_Is
def FineS (c : G_Change) : Prop := FineH c ∧ c.f_Is.f_Heard ≤ 1099511627777
theorem fine_zero : Fine zeroC := ⟨⟨by decide, by decide⟩, ⟨by decide, by decide⟩, ⟨by decide, by decide⟩, ⟨by decide, by decide⟩, by decide, by decide, by decide, by decide⟩
noncomputable def chP (n : Nat) (l : List G_Contact) (m v : Int) (out : List G_Change) (c : G_Change) (s : G_Stream) {R : Type} (e0 : G_Stream → List G_Change → Option R) : Option R :=
 bif decide ((out.length + [c].length) * 208 ≤ roomBytes') then Stream_Changes_L3 I_Stream_Changes n l m (w64 (v + 1)) s (out ++ [c]) e0 else none
noncomputable def chF (n : Nat) (l : List G_Contact) (m v : Int) (out : List G_Change) (no kind : Int) (was is : G_Contact) (s : G_Stream) {R : Type} (e0 : G_Stream → List G_Change → Option R) : Option R :=
 Stream_Flip s 50 fun f s1 => bif f then Stream_Odd s1 1 9 fun r s2 => Stream_Odd s2 1 3 fun q s3 => chP n l m v out ⟨r, q, was, is⟩ s3 e0 else chP n l m v out ⟨no, kind, was, is⟩ s1 e0
noncomputable def chT (n : Nat) (l : List G_Contact) (m v : Int) (out : List G_Change) (no kind : Int) (was is : G_Contact) (s : G_Stream) {R : Type} (e0 : G_Stream → List G_Change → Option R) : Option R :=
 bif kind == 1 then chF n l m v out no kind zeroC is s e0 else bif kind == 2 then chF n l m v out no kind was zeroC s e0 else chF n l m v out no kind was is s e0
def moreHeard (x : G_Contact) : G_Contact := ⟨x.f_At, x.f_Mode, x.f_Band, x.f_Call, x.f_Sent, w64 (x.f_Heard + 1), x.f_Gave, x.f_Got⟩
theorem ch_step (n : Nat) (l : List G_Contact) (m v : Int) (s : G_Stream) (out : List G_Change) (R : Type) (e0 : G_Stream → List G_Change → Option R) : Stream_Changes_L3 I_Stream_Changes (n + 1) l m v s out e0 =
  bif decide (v < m) then Stream_Range s 1 2 fun f s1 => Stream_Pick s1 [1, 2, 3] fun kind s2 => Stream_Range s2 0 100 fun t1 s3 => Stream_SomeContact s3 t1 fun c1 s4 => Stream_Range s4 0 100 fun t2 s5 => Stream_SomeContact s5 t2 fun c2 s6 =>
   bif decide ((l.length : Int) > 0) then Stream_Flip s6 6 fun f6 s7 =>
    bif !f6 then Stream_Next s7 (l.length : Int) fun i s8 => get_ l i fun x => Stream_Flip s8 3 fun f3 s9 => bif f3 then Stream_Next s9 (l.length : Int) fun j s10 => get_ l j fun y => chT n l m v out (w64 (w64 (2 * v) + f)) kind x (moreHeard y) s10 e0 else chT n l m v out (w64 (w64 (2 * v) + f)) kind x c2 s9 e0
    else Stream_Flip s7 3 fun f3 s9 => bif f3 then Stream_Next s9 (l.length : Int) fun j s10 => get_ l j fun y => chT n l m v out (w64 (w64 (2 * v) + f)) kind c1 (moreHeard y) s10 e0 else chT n l m v out (w64 (w64 (2 * v) + f)) kind c1 c2 s9 e0
   else chT n l m v out (w64 (w64 (2 * v) + f)) kind c1 c2 s6 e0
  else e0 s out := by kernel_rfl
theorem chF_gives (n : Nat) (l : List G_Contact) (m v : Int) (out : List G_Change) (ho : out.length ≤ 1000) (no kind : Int) (h1 : Mid no) (h2 : Mid kind) {was is : G_Contact} (hw : Fine was) (hi : Fine is) (hh : is.f_Heard ≤ 1099511627777) {b : Int} {s : G_Stream} (hs : SOk b s) (hb : b ≤ 1099511620000) :
  ∃ (c : G_Change) (s' : G_Stream), FineS c ∧ SOk (b + 5) s' ∧ ∀ (R : Type) (e0 : G_Stream → List G_Change → Option R), chF n l m v out no kind was is s e0 = Stream_Changes_L3 I_Stream_Changes n l m (w64 (v + 1)) s' (out ++ [c]) e0 := by
 obtain ⟨f, s1, z1, e1⟩ := Stream_Flip_gives hs 50 (by omega) (by omega)
 cases f with
 | true =>
  obtain ⟨r, s2, r1, r2, z2, e2⟩ := Stream_Odd_gives z1 1 9 (by omega) (by omega) (by omega) (by omega) (by omega)
  obtain ⟨q, s3, q1, q2, z3, e3⟩ := Stream_Odd_gives z2 1 3 (by omega) (by omega) (by omega) (by omega) (by omega)
  exact ⟨⟨r, q, was, is⟩, s3, ⟨⟨⟨by simp only; omega, by simp only; omega⟩, ⟨by simp only; omega, by simp only; omega⟩, hw, hi⟩, hh⟩, z3.mono (by omega), fun R e0 => by simp only [chF, e1, cond_true, e2, e3, chP, room1 out _ 208 (by omega) (by omega)]⟩
 | false => exact ⟨⟨no, kind, was, is⟩, s1, ⟨⟨h1, h2, hw, hi⟩, hh⟩, z1.mono (by omega), fun R e0 => by simp only [chF, e1, cond_false, chP, room1 out _ 208 (by omega) (by omega), cond_true]⟩
theorem chT_gives (n : Nat) (l : List G_Contact) (m v : Int) (out : List G_Change) (ho : out.length ≤ 1000) (no kind : Int) (h1 : Mid no) (h2 : Mid kind) {was is : G_Contact} (hw : Fine was) (hi : Fine is) (hh : is.f_Heard ≤ 1099511627777) {b : Int} {s : G_Stream} (hs : SOk b s) (hb : b ≤ 1099511620000) :
  ∃ (c : G_Change) (s' : G_Stream), FineS c ∧ SOk (b + 5) s' ∧ ∀ (R : Type) (e0 : G_Stream → List G_Change → Option R), chT n l m v out no kind was is s e0 = Stream_Changes_L3 I_Stream_Changes n l m (w64 (v + 1)) s' (out ++ [c]) e0 := by
 cases k1 : kind == 1 with
 | true =>
  obtain ⟨c, s', g1, g2, g3⟩ := chF_gives n l m v out ho no kind h1 h2 fine_zero hi hh hs hb
  exact ⟨c, s', g1, g2, fun R e0 => by simp only [chT, k1, cond_true, g3]⟩
 | false =>
  cases k2 : kind == 2 with
  | true =>
   obtain ⟨c, s', g1, g2, g3⟩ := chF_gives n l m v out ho no kind h1 h2 hw fine_zero (by decide) hs hb
   exact ⟨c, s', g1, g2, fun R e0 => by simp only [chT, k1, k2, cond_true, cond_false, g3]⟩
  | false =>
   obtain ⟨c, s', g1, g2, g3⟩ := chF_gives n l m v out ho no kind h1 h2 hw hi hh hs hb
   exact ⟨c, s', g1, g2, fun R e0 => by simp only [chT, k1, k2, cond_false, g3]⟩
theorem more_fine {x : G_Contact} (h : Fine x) (h2 : x.f_Heard ≤ 1099511627776) : Fine (moreHeard x) ∧ (moreHeard x).f_Heard ≤ 1099511627777 := by
 have hw : w64 (x.f_Heard + 1) = x.f_Heard + 1 := w64_eq (by have := h.heard; omega) (by omega)
 have e : moreHeard x = ⟨x.f_At, x.f_Mode, x.f_Band, x.f_Call, x.f_Sent, x.f_Heard + 1, x.f_Gave, x.f_Got⟩ := by unfold moreHeard; rw [hw]
 rw [e]
 exact ⟨⟨h.at1, h.mode, h.sent, ⟨by have := h.heard; simp only; omega, by simp only; omega⟩, h.band, h.call, h.gave, h.got⟩, by simp only; omega⟩
theorem pick_of {l : List G_Contact} {b : Int} {s : G_Stream} (hs : SOk b s) (hb : b ≤ 1099511627000) (hl : l.length ≤ 1000) (h0 : 0 < l.length) :
  ∃ (x : G_Contact) (s' : G_Stream), x ∈ l ∧ SOk (b + 1) s' ∧ ∀ (R : Type) (k : G_Contact → G_Stream → Option R), (Stream_Next s (l.length : Int) fun i s8 => get_ l i fun x => k x s8) = k x s' := by
 obtain ⟨r, s1, r1, r2, w1, f1⟩ := Stream_Next_gives hs (l.length : Int) (by omega) (by omega)
 obtain ⟨r, rfl⟩ : ∃ m : Nat, r = (m : Int) := ⟨r.toNat, by omega⟩
 have hr : r < l.length := by have := r2 (by omega); omega
 exact ⟨l[r], s1, List.getElem_mem hr, w1, fun R k => by rw [f1]; exact get_nat (List.getElem?_eq_getElem hr) _⟩
theorem Stream_Changes_loop (l : List G_Contact) (hl : l.length ≤ 1000) (hf : ∀ c ∈ l, Fine c ∧ c.f_Heard ≤ 1099511627776) (m : Nat) (hm : m ≤ 100) : ∀ (n i : Nat) (s : G_Stream) (out : List G_Change) (b : Int), m - i < n → i ≤ m → SOk (b + 90 * (i : Int)) s → b ≤ 1000000 → out.length = i → (∀ c ∈ out, FineS c) →
  ∃ (r : List G_Change) (s' : G_Stream), SOk (b + 90 * (m : Int)) s' ∧ r.length = m ∧ (∀ c ∈ r, FineS c) ∧ ∀ (R : Type) (e0 : G_Stream → List G_Change → Option R), Stream_Changes_L3 I_Stream_Changes n l (m : Int) (i : Int) s out e0 = e0 s' r
 | 0, i, _, _, _, h, _, _, _, _, _ => by omega
 | n + 1, i, s, out, b, h, hi, hs, hb, ho, hfo => by
  by_cases hc : i < m
  ·obtain ⟨f, s1, f1, f2, z1, e1⟩ := Stream_Range_gives hs 1 2 (by omega) (by omega) (by omega) (by omega) (by omega)
   obtain ⟨kind, s2, hk, z2, e2⟩ := Stream_Pick_gives z1 [1, 2, 3] (by omega) (by simp) (by simp)
   obtain ⟨t1, s3, t11, t12, z3, e3⟩ := Stream_Range_gives z2 0 100 (by omega) (by omega) (by omega) (by omega) (by omega)
   obtain ⟨c1, s4, hc1, hh1, z4, e4⟩ := Stream_SomeContact_gives z3 t1 (by omega) (by omega) (by omega)
   obtain ⟨t2, s5, t21, t22, z5, e5⟩ := Stream_Range_gives z4 0 100 (by omega) (by omega) (by omega) (by omega) (by omega)
   obtain ⟨c2, s6, hc2, hh2, z6, e6⟩ := Stream_SomeContact_gives z5 t2 (by omega) (by omega) (by omega)
   simp only [List.mem_cons, List.not_mem_nil, or_false] at hk
   have hw1 : w64 (2 * (i : Int)) = 2 * (i : Int) := w64_eq (by omega) (by omega)
   have hw : w64 (w64 (2 * (i : Int)) + f) = 2 * (i : Int) + f := by rw [hw1]; exact w64_eq (by omega) (by omega)
   have hno : Mid (w64 (w64 (2 * (i : Int)) + f)) := by rw [hw]; exact ⟨by omega, by omega⟩
   have hkind : Mid kind := ⟨by omega, by omega⟩
   have step : ∃ (c : G_Change) (s' : G_Stream), FineS c ∧ SOk (b + 90 * ((i + 1 : Nat) : Int)) s' ∧ ∀ (R : Type) (e0 : G_Stream → List G_Change → Option R), Stream_Changes_L3 I_Stream_Changes (n + 1) l (m : Int) (i : Int) s out e0 = Stream_Changes_L3 I_Stream_Changes n l (m : Int) (w64 ((i : Int) + 1)) s' (out ++ [c]) e0 := by
    have hd : decide ((i : Int) < (m : Int)) = true := decide_eq_true (by omega)
    by_cases h0 : 0 < l.length
    ·have hd0 : decide ((l.length : Int) > 0) = true := decide_eq_true (by omega)
     obtain ⟨f6, s7, z7, e7⟩ := Stream_Flip_gives z6 6 (by omega) (by omega)
     cases f6 with
     | false =>
      obtain ⟨x, s8, hx, z8, e8⟩ := pick_of z7 (by omega) hl h0
      obtain ⟨f3, s9, z9, e9⟩ := Stream_Flip_gives z8 3 (by omega) (by omega)
      cases f3 with
      | true =>
       obtain ⟨y, s10, hy, z10, e10⟩ := pick_of z9 (by omega) hl h0
       obtain ⟨y1, y2⟩ := more_fine (hf y hy).1 (hf y hy).2
       obtain ⟨c, s', g1, g2, g3⟩ := chT_gives n l m i out (by omega) _ kind hno hkind (hf x hx).1 y1 y2 z10 (by omega)
       exact ⟨c, s', g1, g2.mono (by omega), fun R e0 => by simp only [ch_step, hd, hd0, cond_true, e1, e2, e3, e4, e5, e6, e7, Bool.not_false, e8, e9, e10, g3]⟩
      | false =>
       obtain ⟨c, s', g1, g2, g3⟩ := chT_gives n l m i out (by omega) _ kind hno hkind (hf x hx).1 hc2 (by omega) z9 (by omega)
       exact ⟨c, s', g1, g2.mono (by omega), fun R e0 => by simp only [ch_step, hd, hd0, cond_true, cond_false, e1, e2, e3, e4, e5, e6, e7, Bool.not_false, e8, e9, g3]⟩
     | true =>
      obtain ⟨f3, s9, z9, e9⟩ := Stream_Flip_gives z7 3 (by omega) (by omega)
      cases f3 with
      | true =>
       obtain ⟨y, s10, hy, z10, e10⟩ := pick_of z9 (by omega) hl h0
       obtain ⟨y1, y2⟩ := more_fine (hf y hy).1 (hf y hy).2
       obtain ⟨c, s', g1, g2, g3⟩ := chT_gives n l m i out (by omega) _ kind hno hkind hc1 y1 y2 z10 (by omega)
       exact ⟨c, s', g1, g2.mono (by omega), fun R e0 => by simp only [ch_step, hd, hd0, cond_true, cond_false, e1, e2, e3, e4, e5, e6, e7, Bool.not_true, e9, e10, g3]⟩
      | false =>
       obtain ⟨c, s', g1, g2, g3⟩ := chT_gives n l m i out (by omega) _ kind hno hkind hc1 hc2 (by omega) z9 (by omega)
       exact ⟨c, s', g1, g2.mono (by omega), fun R e0 => by simp only [ch_step, hd, hd0, cond_true, cond_false, e1, e2, e3, e4, e5, e6, e7, Bool.not_true, e9, g3]⟩
    ·have hd0 : decide ((l.length : Int) > 0) = false := decide_eq_false (by omega)
     obtain ⟨c, s', g1, g2, g3⟩ := chT_gives n l m i out (by omega) _ kind hno hkind hc1 hc2 (by omega) z6 (by omega)
     exact ⟨c, s', g1, g2.mono (by omega), fun R e0 => by simp only [ch_step, hd, hd0, cond_true, cond_false, e1, e2, e3, e4, e5, e6, g3]⟩
   obtain ⟨c, s', g1, g2, g3⟩ := step
   obtain ⟨r, s'', k1, k2, k3, k4⟩ := Stream_Changes_loop l hl hf m hm n (i + 1) s' (out ++ [c]) b (by omega) (by omega) g2 hb (by simp [ho]) (fun x hx => by
    rcases List.mem_append.1 hx with h | h
    ·exact hfo x h
    ·simp at h; rw [h]; exact g1)
   refine ⟨r, s'', k1, k2, k3, fun R e0 => ?_⟩
   rw [g3, w64_succ (by omega)]
   exact k4 R e0
  ·refine ⟨out, s, hs.mono (by omega), by omega, hfo, fun R e0 => ?_⟩
   rw [ch_step, decide_eq_false (by omega)]; rfl
theorem Stream_Changes_gives {l : List G_Contact} (hl : l.length ≤ 1000) (hf : ∀ c ∈ l, Fine c ∧ c.f_Heard ≤ 1099511627776) {b : Int} {s : G_Stream} (hs : SOk b s) (hb : b ≤ 900000) :
  ∃ (r : List G_Change) (s' : G_Stream), SOk (b + 1000) s' ∧ r.length ≤ 6 ∧ (∀ c ∈ r, FineS c) ∧ ∀ (R : Type) (k : List G_Change → G_Stream → Option R), Stream_Changes s l k = k r s' := by
 obtain ⟨m, s1, m1, m2, z1, e1⟩ := Stream_Range_gives hs 0 6 (by omega) (by omega) (by omega) (by omega) (by omega)
 obtain ⟨m, rfl⟩ : ∃ q : Nat, m = (q : Int) := ⟨m.toNat, by omega⟩
 obtain ⟨r, s', g1, g2, g3, g4⟩ := Stream_Changes_loop l hl hf m (by omega) NN 0 s1 [] (b + 100) (by have := NN_ok; omega) (by omega) (z1.mono (by omega)) (by omega) rfl (fun c h => by cases h)
 have g4' : ∀ (R : Type) (e0 : G_Stream → List G_Change → Option R), Stream_Changes_L3 I_Stream_Changes I_Stream_Changes.N l (m : Int) 0 s1 [] e0 = e0 s' r := g4
 refine ⟨r, s', g1.mono (by omega), by omega, g3, fun R k => ?_⟩
 simp only [I_Stream_Changes] at g4'
 simp only [Stream_Changes, Stream_Changes_, I_Stream_Changes, e1, g4']
noncomputable def formH (c : G_Change) : Bool := bif c.f_Kind == 2 then (bif !(eq_G_Contact c.f_Is zeroC) then true else bif c.f_Kind == 1 then (bif !(eq_G_Contact c.f_Was zeroC) then true else eq_G_Contact c.f_Was c.f_Is) else eq_G_Contact c.f_Was c.f_Is) else bif c.f_Kind == 1 then (bif !(eq_G_Contact c.f_Was zeroC) then true else eq_G_Contact c.f_Was c.f_Is) else eq_G_Contact c.f_Was c.f_Is
def lowH (p : Option G_Change) (c : G_Change) : Bool := match p with | none => false | some q => decide (c.f_No ≤ q.f_No)
noncomputable def chkH (p : Option G_Change) (c : G_Change) : Int :=
 bif !inB c.f_No 1 1000 then 1 else bif !inB c.f_Kind 1 3 then 4 else bif (c.f_Kind != 1) && (chk c.f_Was != 0) then chk c.f_Was else bif (c.f_Kind != 2) && (chk c.f_Is != 0) then chk c.f_Is else
 bif formH c then 3 else bif lowH p c then 7 else 0
theorem log_changeFault_is (d : List G_Change) (hf : ∀ c ∈ d, FineH c) (hl : d.length ≤ 100000) {c : G_Change} {cs : List G_Change} {i : Nat} {p : Option G_Change} (h : d.drop i = c :: cs) (hp : PrevAt d i p) (R : Type) (k : Int → Option R) : log_changeFault d (i : Int) k = k (chkH p c) := by
 have fc := hf c (mem_drop h)
 have j17 : ∀ (e0 : Int → Option R), log_changeFault_J17 I_log_changeFault d (i : Int) c e0 = e0 (bif lowH p c then 7 else 0) := by
  intro e0
  unfold log_changeFault_J17
  cases p with
  | none =>
   rw [decide_eq_false (show ¬ ((i : Int) > 0) by unfold PrevAt at hp; omega)]
   rfl
  | some q =>
   obtain ⟨h0, ys, hq⟩ := hp
   rw [decide_eq_true (show ((i : Int) > 0) by omega), cond_true, prev_drop hq h0 (by omega)]
   simp only [log_changeFault_J18, log_changeFault_J19, lowH]
   cases decide (c.f_No ≤ q.f_No) <;> rfl
 have j14 : ∀ (e0 : Int → Option R), log_changeFault_J14 I_log_changeFault d (i : Int) c e0 = e0 (bif formH c then 3 else bif lowH p c then 7 else 0) := by
  intro e0
  have hz : (⟨0, 0, [], [], 0, 0, [], []⟩ : G_Contact) = zeroC := rfl
  simp only [log_changeFault_J14, log_changeFault_J16, j17, formH, hz]
  cases c.f_Kind == 2 <;> cases c.f_Kind == 1 <;> cases eq_G_Contact c.f_Is zeroC <;> cases eq_G_Contact c.f_Was zeroC <;> cases eq_G_Contact c.f_Was c.f_Is <;> rfl
 have j10 : ∀ (e0 : Int → Option R), log_changeFault_J10 I_log_changeFault d (i : Int) c e0 = e0 (bif (c.f_Kind != 2) && (chk c.f_Is != 0) then chk c.f_Is else bif formH c then 3 else bif lowH p c then 7 else 0) := by
  intro e0
  simp only [I_log_changeFault] at j14
  simp only [log_changeFault_J10, I_log_changeFault, log_CheckContact_is fc.is, j14]
  cases c.f_Kind != 2 <;> cases chk c.f_Is != 0 <;> rfl
 simp only [I_log_changeFault] at j10
 simp only [log_changeFault, log_changeFault_, I_log_changeFault, get_drop h, kit_Outside_is, log_CheckContact_is fc.was, j10, chkH]
 cases inB c.f_No 1 1000 <;> cases inB c.f_Kind 1 3 <;> cases c.f_Kind != 1 <;> cases chk c.f_Was != 0 <;> rfl
noncomputable def faultHs : Option G_Change → List G_Change → Int
 | _, [] => 0
 | p, c :: cs => bif chkH p c != 0 then chkH p c else faultHs (some c) cs
theorem log_CheckChanges_loop (d : List G_Change) (hf : ∀ c ∈ d, FineH c) (hl : d.length ≤ 100000) : ∀ (xs : List G_Change) (n i : Nat) (p : Option G_Change), d.drop i = xs → PrevAt d i p → xs.length < n → ∀ (R : Type) (k : Int → Option R),
  log_CheckChanges_L4 I_log_CheckChanges n d (d.length : Int) (i : Int) k (k 0) = k (faultHs p xs)
 | _, 0, _, _, _, _, h, _, _ => by omega
 | [], n + 1, i, p, h, _, _, _, _ => by rw [log_CheckChanges_L4, ge_drop h]; rfl
 | c :: cs, n + 1, i, p, h, hp, hn, R, k => by
  have h' := drop_cons h
  have ih := log_CheckChanges_loop d hf hl cs n (i + 1) (some c) h'.2.2.1 (prevAt_next h) (by simp at hn; omega) R k
  rw [log_CheckChanges_L4, lt_drop h]
  simp only [I_log_CheckChanges] at ih
  simp only [cond_true, I_log_CheckChanges, log_changeFault_is d hf hl h hp, faultHs, w64_succ (show i < 4611686018427387904 by omega)]
  cases hq : chkH p c != 0 with
  | true => rfl
  | false => exact ih
theorem Q_ChangesFault_step (d : List G_Change) (hf : ∀ c ∈ d, FineH c) (hl : d.length ≤ 100000) {c : G_Change} {cs : List G_Change} {i : Nat} {p : Option G_Change} (h : d.drop i = c :: cs) (hp : PrevAt d i p) (n : Nat) (R : Type) (k : Int → Option R) (e1 : Option R) :
  Q_ChangesFault_L4 I_Q_ChangesFault (n + 1) d d (d.length : Int) (i : Int) k e1 = bif chkH p c != 0 then k (chkH p c) else Q_ChangesFault_L4 I_Q_ChangesFault n d d (d.length : Int) ((i + 1 : Nat) : Int) k e1 := by
 have fc := hf c (mem_drop h)
 have h' := drop_cons h
 have hz : (⟨0, 0, [], [], 0, 0, [], []⟩ : G_Contact) = zeroC := rfl
 rw [Q_ChangesFault_L4, lt_drop h]
 generalize hX : Q_ChangesFault_L4 I_Q_ChangesFault n d d (d.length : Int) ((i + 1 : Nat) : Int) k e1 = X
 have hX' : Q_ChangesFault_L4 I_Q_ChangesFault n d d (d.length : Int) (w64 ((i : Int) + 1)) k e1 = X := by rw [w64_succ (by omega)]; exact hX
 simp only [cond_true, get_drop h, hX']
 have tail : (bif decide ((i : Int) > 0) then get_ d (w64 ((i : Int) - 1)) fun x33 => bif decide (c.f_No ≤ x33.f_No) then k 7 else X else X) = bif lowH p c then k 7 else X := by
  cases p with
  | none =>
   rw [decide_eq_false (show ¬ ((i : Int) > 0) by unfold PrevAt at hp; omega)]; rfl
  | some q =>
   obtain ⟨h0, ys, hq⟩ := hp
   rw [decide_eq_true (show ((i : Int) > 0) by omega), cond_true, prev_drop hq h0 (by omega)]
   rfl
 simp only [tail, I_Q_ChangesFault, Q_in_is, Q_ContactFault_is fc.was, Q_ContactFault_is fc.is, hz, chkH, formH]
 generalize lowH p c = lw
 cases hno : inB c.f_No 1 1000 with
 | false => rfl
 | true =>
  cases hkd : inB c.f_Kind 1 3 with
  | false => rfl
  | true =>
   have hk3 : c.f_Kind = 1 ∨ c.f_Kind = 2 ∨ c.f_Kind = 3 := by have := inB_is.1 hkd; omega
   simp only [Bool.not_true, cond_false]
   rcases hk3 with hk | hk | hk
   ·have b1 : (c.f_Kind == 1) = true := by rw [hk]; rfl
    have b2 : (c.f_Kind == 2) = false := by rw [hk]; rfl
    have b3 : (c.f_Kind != 1) = false := by rw [hk]; rfl
    have b4 : (c.f_Kind != 2) = true := by rw [hk]; rfl
    simp only [b1, b2, b3, b4, cond_true, cond_false, Bool.false_and, Bool.true_and]
    cases hi : chk c.f_Is != 0 <;> cases eq_G_Contact c.f_Was zeroC <;> cases eq_G_Contact c.f_Was c.f_Is <;> cases lw <;> simp only [cond_true, cond_false, Bool.not_true, Bool.not_false, hi] <;> rfl
   ·have b1 : (c.f_Kind == 1) = false := by rw [hk]; rfl
    have b2 : (c.f_Kind == 2) = true := by rw [hk]; rfl
    have b3 : (c.f_Kind != 1) = true := by rw [hk]; rfl
    have b4 : (c.f_Kind != 2) = false := by rw [hk]; rfl
    simp only [b1, b2, b3, b4, cond_true, cond_false, Bool.false_and, Bool.true_and]
    cases hi : chk c.f_Was != 0 <;> cases eq_G_Contact c.f_Is zeroC <;> cases eq_G_Contact c.f_Was c.f_Is <;> cases lw <;> simp only [cond_true, cond_false, Bool.not_true, Bool.not_false, hi] <;> rfl
   ·have b1 : (c.f_Kind == 1) = false := by rw [hk]; rfl
    have b2 : (c.f_Kind == 2) = false := by rw [hk]; rfl
    have b3 : (c.f_Kind != 1) = true := by rw [hk]; rfl
    have b4 : (c.f_Kind != 2) = true := by rw [hk]; rfl
    simp only [b1, b2, b3, b4, cond_true, cond_false, Bool.false_and, Bool.true_and]
    cases hi : chk c.f_Was != 0 <;> cases hi2 : chk c.f_Is != 0 <;> cases eq_G_Contact c.f_Was c.f_Is <;> cases lw <;> simp only [cond_true, cond_false, Bool.not_true, Bool.not_false, hi, hi2] <;> rfl
theorem Q_ChangesFault_loop (d : List G_Change) (hf : ∀ c ∈ d, FineH c) (hl : d.length ≤ 100000) : ∀ (xs : List G_Change) (n i : Nat) (p : Option G_Change), d.drop i = xs → PrevAt d i p → xs.length < n → ∀ (R : Type) (k : Int → Option R),
  Q_ChangesFault_L4 I_Q_ChangesFault n d d (d.length : Int) (i : Int) k (k 0) = k (faultHs p xs)
 | _, 0, _, _, _, _, h, _, _ => by omega
 | [], n + 1, i, p, h, _, _, _, _ => by rw [Q_ChangesFault_L4, ge_drop h]; rfl
 | c :: cs, n + 1, i, p, h, hp, hn, R, k => by
  have h' := drop_cons h
  have ih := Q_ChangesFault_loop d hf hl cs n (i + 1) (some c) h'.2.2.1 (prevAt_next h) (by simp at hn; omega) R k
  rw [Q_ChangesFault_step d hf hl h hp, ih, faultHs]
  cases chkH p c != 0 <;> rfl
noncomputable def faultH (d : List G_Change) : Int := bif decide ((d.length : Int) > 1000) then 2 else faultHs none d
theorem log_CheckChanges_is {d : List G_Change} (hf : ∀ c ∈ d, FineH c) (hl : d.length ≤ 100000) (R : Type) (k : Int → Option R) : log_CheckChanges d k = k (faultH d) := by
 have h : log_CheckChanges_L4 I_log_CheckChanges I_log_CheckChanges.N d (d.length : Int) 0 k (k 0) = k (faultHs none d) := log_CheckChanges_loop d hf hl d I_log_CheckChanges.N 0 none rfl rfl (show d.length < NN by have := NN_ok; omega) R k
 simp only [log_CheckChanges, log_CheckChanges_, faultH, h]
 cases decide ((d.length : Int) > 1000) <;> rfl
theorem Q_ChangesFault_is {d : List G_Change} (hf : ∀ c ∈ d, FineH c) (hl : d.length ≤ 100000) (R : Type) (k : Int → Option R) : Q_ChangesFault d k = k (faultH d) := by
 have h : Q_ChangesFault_L4 I_Q_ChangesFault I_Q_ChangesFault.N d d (d.length : Int) 0 k (k 0) = k (faultHs none d) := Q_ChangesFault_loop d hf hl d I_Q_ChangesFault.N 0 none rfl rfl (show d.length < NN by have := NN_ok; omega) R k
 simp only [Q_ChangesFault, Q_ChangesFault_, faultH, h]
 cases decide ((d.length : Int) > 1000) <;> rfl
end Go.Am
