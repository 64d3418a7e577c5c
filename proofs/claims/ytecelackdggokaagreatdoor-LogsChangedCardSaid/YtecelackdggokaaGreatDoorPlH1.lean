/- The plain law, in Lean alone: H1, H2, H3. No condition: lemmas for the claim. -/
import Derived.Test.YtecelackdggokaaGreatDoorPlC1
import Derived.Test.YtecelackdggokaaGreatDoorPlB4
set_option linter.unusedVariables false
set_option linter.unusedSectionVars false
set_option linter.unusedSimpArgs false
set_option maxRecDepth 100000
namespace Go.Am
open Go Go.Proofs
variable [Fuel]
def zeroC : G_Contact := ⟨0, 0, [], [], 0, 0, [], []⟩
structure FineH (c : G_Change) : Prop where
  no : Mid c.f_No
  kind : Mid c.f_Kind
  was : Fine c.f_Was
  is : Fine c.f_Is
def FineS (c : G_Change) : Prop := FineH c ∧ c.f_Is.f_Heard ≤ 1099511627777
theorem fine_zero : Fine zeroC := ⟨⟨by decide, by decide⟩, ⟨by decide, by decide⟩, ⟨by decide, by decide⟩, ⟨by decide, by decide⟩, by decide, by decide, by decide, by decide⟩
noncomputable def chP (n : Nat) (l : List G_Contact) (m v : Int) (out : List G_Change) (c : G_Change) (s : G_Stream) {R : Type} (e0 : G_Stream → List G_Change → Option R) : Option R :=
  bif decide ((out.length + [c].length) * 208 ≤ roomBytes') then Stream_Changes_L3 I_Stream_Changes n l m (w64 (v + 1)) s (out ++ [c]) e0 else none
noncomputable def chF (n : Nat) (l : List G_Contact) (m v : Int) (out : List G_Change) (no kind : Int) (was is : G_Contact) (s : G_Stream) {R : Type} (e0 : G_Stream → List G_Change → Option R) : Option R :=
  Stream_Flip s 50 fun f s1 => bif f then Stream_Odd s1 1 9 fun r s2 => Stream_Odd s2 1 3 fun q s3 => chP n l m v out ⟨r, q, was, is⟩ s3 e0 else chP n l m v out ⟨no, kind, was, is⟩ s1 e0
noncomputable def chT (n : Nat) (l : List G_Contact) (m v : Int) (out : List G_Change) (no kind : Int) (was is : G_Contact) (s : G_Stream) {R : Type} (e0 : G_Stream → List G_Change → Option R) : Option R :=
  bif kind == 1 then chF n l m v out no kind zeroC is s e0 else bif kind == 2 then chF n l m v out no kind was zeroC s e0 else chF n l m v out no kind was is s e0
def moreHeard (x : G_Contact) : G_Contact := ⟨x.f_At, x.f_Mode, x.f_Band, x.f_Call, x.f_Sent, w64 (x.f_Heard + 1), x.f_Gave, x.f_Got⟩
theorem ch_step (n : Nat) (l : List G_Contact) (m v : Int) (s : G_Stream) (out : List G_Change) (R : Type) (e0 : G_Stream → List G_Change → Option R) : Stream_Changes_L3 I_Stream_Changes (n + 1) l m v s out e0 =
    bif decide (v < m) then Stream_Range s 1 2 fun f s1 => Stream_Pick s1 [1, 2, 3] fun kind s2 => Stream_Range s2 0 100 fun t1 s3 => Stream_SomeContact s3 t1 fun c1 s4 => Stream_Range s4 0 100 fun t2 s5 => Stream_SomeContact s5 t2 fun c2 s6 =>
      bif decide ((l.length : Int) > 0) then Stream_Flip s6 6 fun f6 s7 =>
        bif !f6 then Stream_Next s7 (l.length : Int) fun i s8 => get_ l i fun x => Stream_Flip s8 3 fun f3 s9 => bif f3 then Stream_Next s9 (l.length : Int) fun j s10 => get_ l j fun y => chT n l m v out (w64 (w64 (2 * v) + f)) kind x (moreHeard y) s10 e0 else chT n l m v out (w64 (w64 (2 * v) + f)) kind x c2 s9 e0
        else Stream_Flip s7 3 fun f3 s9 => bif f3 then Stream_Next s9 (l.length : Int) fun j s10 => get_ l j fun y => chT n l m v out (w64 (w64 (2 * v) + f)) kind c1 (moreHeard y) s10 e0 else chT n l m v out (w64 (w64 (2 * v) + f)) kind c1 c2 s9 e0
      else chT n l m v out (w64 (w64 (2 * v) + f)) kind c1 c2 s6 e0
    else e0 s out := by kernel_rfl
theorem chF_gives (n : Nat) (l : List G_Contact) (m v : Int) (out : List G_Change) (ho : out.length ≤ 1000) (no kind : Int) (h1 : Mid no) (h2 : Mid kind) {was is : G_Contact} (hw : Fine was) (hi : Fine is) (hh : is.f_Heard ≤ 1099511627777) {b : Int} {s : G_Stream} (hs : SOk b s) (hb : b ≤ 1099511620000) :
    ∃ (c : G_Change) (s' : G_Stream), FineS c ∧ SOk (b + 5) s' ∧ ∀ (R : Type) (e0 : G_Stream → List G_Change → Option R), chF n l m v out no kind was is s e0 = Stream_Changes_L3 I_Stream_Changes n l m (w64 (v + 1)) s' (out ++ [c]) e0 := by
  obtain ⟨f, s1, z1, e1⟩ := Stream_Flip_gives hs 50 (by omega) (by omega)
  cases f with
  | true =>
    obtain ⟨r, s2, r1, r2, z2, e2⟩ := Stream_Odd_gives z1 1 9 (by omega) (by omega) (by omega) (by omega) (by omega)
    obtain ⟨q, s3, q1, q2, z3, e3⟩ := Stream_Odd_gives z2 1 3 (by omega) (by omega) (by omega) (by omega) (by omega)
    exact ⟨⟨r, q, was, is⟩, s3, ⟨⟨⟨by simp only; omega, by simp only; omega⟩, ⟨by simp only; omega, by simp only; omega⟩, hw, hi⟩, hh⟩, z3.mono (by omega), fun R e0 => by simp only [chF, e1, cond_true, e2, e3, chP, room1 out _ 208 (by omega) (by omega)]⟩
  | false => exact ⟨⟨no, kind, was, is⟩, s1, ⟨⟨h1, h2, hw, hi⟩, hh⟩, z1.mono (by omega), fun R e0 => by simp only [chF, e1, cond_false, chP, room1 out _ 208 (by omega) (by omega), cond_true]⟩
theorem chT_gives (n : Nat) (l : List G_Contact) (m v : Int) (out : List G_Change) (ho : out.length ≤ 1000) (no kind : Int) (h1 : Mid no) (h2 : Mid kind) {was is : G_Contact} (hw : Fine was) (hi : Fine is) (hh : is.f_Heard ≤ 1099511627777) {b : Int} {s : G_Stream} (hs : SOk b s) (hb : b ≤ 1099511620000) :
    ∃ (c : G_Change) (s' : G_Stream), FineS c ∧ SOk (b + 5) s' ∧ ∀ (R : Type) (e0 : G_Stream → List G_Change → Option R), chT n l m v out no kind was is s e0 = Stream_Changes_L3 I_Stream_Changes n l m (w64 (v + 1)) s' (out ++ [c]) e0 := by
  cases k1 : kind == 1 with
  | true =>
    obtain ⟨c, s', g1, g2, g3⟩ := chF_gives n l m v out ho no kind h1 h2 fine_zero hi hh hs hb
    exact ⟨c, s', g1, g2, fun R e0 => by simp only [chT, k1, cond_true, g3]⟩
  | false =>
    cases k2 : kind == 2 with
    | true =>
      obtain ⟨c, s', g1, g2, g3⟩ := chF_gives n l m v out ho no kind h1 h2 hw fine_zero (by decide) hs hb
      exact ⟨c, s', g1, g2, fun R e0 => by simp only [chT, k1, k2, cond_true, cond_false, g3]⟩
    | false =>
      obtain ⟨c, s', g1, g2, g3⟩ := chF_gives n l m v out ho no kind h1 h2 hw hi hh hs hb
      exact ⟨c, s', g1, g2, fun R e0 => by simp only [chT, k1, k2, cond_false, g3]⟩
theorem more_fine {x : G_Contact} (h : Fine x) (h2 : x.f_Heard ≤ 1099511627776) : Fine (moreHeard x) ∧ (moreHeard x).f_Heard ≤ 1099511627777 := by
  have hw : w64 (x.f_Heard + 1) = x.f_Heard + 1 := w64_eq (by have := h.heard; omega) (by omega)
  have e : moreHeard x = ⟨x.f_At, x.f_Mode, x.f_Band, x.f_Call, x.f_Sent, x.f_Heard + 1, x.f_Gave, x.f_Got⟩ := by unfold moreHeard; rw [hw]
  rw [e]
  exact ⟨⟨h.at1, h.mode, h.sent, ⟨by have := h.heard; simp only; omega, by simp only; omega⟩, h.band, h.call, h.gave, h.got⟩, by simp only; omega⟩
theorem pick_of {l : List G_Contact} {b : Int} {s : G_Stream} (hs : SOk b s) (hb : b ≤ 1099511627000) (hl : l.length ≤ 1000) (h0 : 0 < l.length) :
    ∃ (x : G_Contact) (s' : G_Stream), x ∈ l ∧ SOk (b + 1) s' ∧ ∀ (R : Type) (k : G_Contact → G_Stream → Option R), (Stream_Next s (l.length : Int) fun i s8 => get_ l i fun x => k x s8) = k x s' := by
  obtain ⟨r, s1, r1, r2, w1, f1⟩ := Stream_Next_gives hs (l.length : Int) (by omega) (by omega)
  obtain ⟨r, rfl⟩ : ∃ m : Nat, r = (m : Int) := ⟨r.toNat, by omega⟩
  have hr : r < l.length := by have := r2 (by omega); omega
  exact ⟨l[r], s1, List.getElem_mem hr, w1, fun R k => by rw [f1]; exact get_nat (List.getElem?_eq_getElem hr) _⟩
theorem Stream_Changes_loop (l : List G_Contact) (hl : l.length ≤ 1000) (hf : ∀ c ∈ l, Fine c ∧ c.f_Heard ≤ 1099511627776) (m : Nat) (hm : m ≤ 100) : ∀ (n i : Nat) (s : G_Stream) (out : List G_Change) (b : Int), m - i < n → i ≤ m → SOk (b + 90 * (i : Int)) s → b ≤ 1000000 → out.length = i → (∀ c ∈ out, FineS c) →
    ∃ (r : List G_Change) (s' : G_Stream), SOk (b + 90 * (m : Int)) s' ∧ r.length = m ∧ (∀ c ∈ r, FineS c) ∧ ∀ (R : Type) (e0 : G_Stream → List G_Change → Option R), Stream_Changes_L3 I_Stream_Changes n l (m : Int) (i : Int) s out e0 = e0 s' r
  | 0, i, _, _, _, h, _, _, _, _, _ => by omega
  | n + 1, i, s, out, b, h, hi, hs, hb, ho, hfo => by
    by_cases hc : i < m
    · obtain ⟨f, s1, f1, f2, z1, e1⟩ := Stream_Range_gives hs 1 2 (by omega) (by omega) (by omega) (by omega) (by omega)
      obtain ⟨kind, s2, hk, z2, e2⟩ := Stream_Pick_gives z1 [1, 2, 3] (by omega) (by simp) (by simp)
      obtain ⟨t1, s3, t11, t12, z3, e3⟩ := Stream_Range_gives z2 0 100 (by omega) (by omega) (by omega) (by omega) (by omega)
      obtain ⟨c1, s4, hc1, hh1, z4, e4⟩ := Stream_SomeContact_gives z3 t1 (by omega) (by omega) (by omega)
      obtain ⟨t2, s5, t21, t22, z5, e5⟩ := Stream_Range_gives z4 0 100 (by omega) (by omega) (by omega) (by omega) (by omega)
      obtain ⟨c2, s6, hc2, hh2, z6, e6⟩ := Stream_SomeContact_gives z5 t2 (by omega) (by omega) (by omega)
      simp only [List.mem_cons, List.not_mem_nil, or_false] at hk
      have hw1 : w64 (2 * (i : Int)) = 2 * (i : Int) := w64_eq (by omega) (by omega)
      have hw : w64 (w64 (2 * (i : Int)) + f) = 2 * (i : Int) + f := by rw [hw1]; exact w64_eq (by omega) (by omega)
      have hno : Mid (w64 (w64 (2 * (i : Int)) + f)) := by rw [hw]; exact ⟨by omega, by omega⟩
      have hkind : Mid kind := ⟨by omega, by omega⟩
      have step : ∃ (c : G_Change) (s' : G_Stream), FineS c ∧ SOk (b + 90 * ((i + 1 : Nat) : Int)) s' ∧ ∀ (R : Type) (e0 : G_Stream → List G_Change → Option R), Stream_Changes_L3 I_Stream_Changes (n + 1) l (m : Int) (i : Int) s out e0 = Stream_Changes_L3 I_Stream_Changes n l (m : Int) (w64 ((i : Int) + 1)) s' (out ++ [c]) e0 := by
        have hd : decide ((i : Int) < (m : Int)) = true := decide_eq_true (by omega)
        by_cases h0 : 0 < l.length
        · have hd0 : decide ((l.length : Int) > 0) = true := decide_eq_true (by omega)
          obtain ⟨f6, s7, z7, e7⟩ := Stream_Flip_gives z6 6 (by omega) (by omega)
          cases f6 with
          | false =>
            obtain ⟨x, s8, hx, z8, e8⟩ := pick_of z7 (by omega) hl h0
            obtain ⟨f3, s9, z9, e9⟩ := Stream_Flip_gives z8 3 (by omega) (by omega)
            cases f3 with
            | true =>
              obtain ⟨y, s10, hy, z10, e10⟩ := pick_of z9 (by omega) hl h0
              obtain ⟨y1, y2⟩ := more_fine (hf y hy).1 (hf y hy).2
              obtain ⟨c, s', g1, g2, g3⟩ := chT_gives n l m i out (by omega) _ kind hno hkind (hf x hx).1 y1 y2 z10 (by omega)
              exact ⟨c, s', g1, g2.mono (by omega), fun R e0 => by simp only [ch_step, hd, hd0, cond_true, e1, e2, e3, e4, e5, e6, e7, Bool.not_false, e8, e9, e10, g3]⟩
            | false =>
              obtain ⟨c, s', g1, g2, g3⟩ := chT_gives n l m i out (by omega) _ kind hno hkind (hf x hx).1 hc2 (by omega) z9 (by omega)
              exact ⟨c, s', g1, g2.mono (by omega), fun R e0 => by simp only [ch_step, hd, hd0, cond_true, cond_false, e1, e2, e3, e4, e5, e6, e7, Bool.not_false, e8, e9, g3]⟩
          | true =>
            obtain ⟨f3, s9, z9, e9⟩ := Stream_Flip_gives z7 3 (by omega) (by omega)
            cases f3 with
            | true =>
              obtain ⟨y, s10, hy, z10, e10⟩ := pick_of z9 (by omega) hl h0
              obtain ⟨y1, y2⟩ := more_fine (hf y hy).1 (hf y hy).2
              obtain ⟨c, s', g1, g2, g3⟩ := chT_gives n l m i out (by omega) _ kind hno hkind hc1 y1 y2 z10 (by omega)
              exact ⟨c, s', g1, g2.mono (by omega), fun R e0 => by simp only [ch_step, hd, hd0, cond_true, cond_false, e1, e2, e3, e4, e5, e6, e7, Bool.not_true, e9, e10, g3]⟩
            | false =>
              obtain ⟨c, s', g1, g2, g3⟩ := chT_gives n l m i out (by omega) _ kind hno hkind hc1 hc2 (by omega) z9 (by omega)
              exact ⟨c, s', g1, g2.mono (by omega), fun R e0 => by simp only [ch_step, hd, hd0, cond_true, cond_false, e1, e2, e3, e4, e5, e6, e7, Bool.not_true, e9, g3]⟩
        · have hd0 : decide ((l.length : Int) > 0) = false := decide_eq_false (by omega)
          obtain ⟨c, s', g1, g2, g3⟩ := chT_gives n l m i out (by omega) _ kind hno hkind hc1 hc2 (by omega) z6 (by omega)
          exact ⟨c, s', g1, g2.mono (by omega), fun R e0 => by simp only [ch_step, hd, hd0, cond_true, cond_false, e1, e2, e3, e4, e5, e6, g3]⟩
      obtain ⟨c, s', g1, g2, g3⟩ := step
      obtain ⟨r, s'', k1, k2, k3, k4⟩ := Stream_Changes_loop l hl hf m hm n (i + 1) s' (out ++ [c]) b (by omega) (by omega) g2 hb (by simp [ho]) (fun x hx => by
        rcases List.mem_append.1 hx with h | h
        · exact hfo x h
        · simp at h; rw [h]; exact g1)
      refine ⟨r, s'', k1, k2, k3, fun R e0 => ?_⟩
      rw [g3, w64_succ (by omega)]
      exact k4 R e0
    · refine ⟨out, s, hs.mono (by omega), by omega, hfo, fun R e0 => ?_⟩
      rw [ch_step, decide_eq_false (by omega)]; rfl
theorem Stream_Changes_gives {l : List G_Contact} (hl : l.length ≤ 1000) (hf : ∀ c ∈ l, Fine c ∧ c.f_Heard ≤ 1099511627776) {b : Int} {s : G_Stream} (hs : SOk b s) (hb : b ≤ 900000) :
    ∃ (r : List G_Change) (s' : G_Stream), SOk (b + 1000) s' ∧ r.length ≤ 6 ∧ (∀ c ∈ r, FineS c) ∧ ∀ (R : Type) (k : List G_Change → G_Stream → Option R), Stream_Changes s l k = k r s' := by
  obtain ⟨m, s1, m1, m2, z1, e1⟩ := Stream_Range_gives hs 0 6 (by omega) (by omega) (by omega) (by omega) (by omega)
  obtain ⟨m, rfl⟩ : ∃ q : Nat, m = (q : Int) := ⟨m.toNat, by omega⟩
  obtain ⟨r, s', g1, g2, g3, g4⟩ := Stream_Changes_loop l hl hf m (by omega) NN 0 s1 [] (b + 100) (by have := NN_ok; omega) (by omega) (z1.mono (by omega)) (by omega) rfl (fun c h => by cases h)
  have g4' : ∀ (R : Type) (e0 : G_Stream → List G_Change → Option R), Stream_Changes_L3 I_Stream_Changes I_Stream_Changes.N l (m : Int) 0 s1 [] e0 = e0 s' r := g4
  refine ⟨r, s', g1.mono (by omega), by omega, g3, fun R k => ?_⟩
  simp only [I_Stream_Changes] at g4'
  simp only [Stream_Changes, Stream_Changes_, I_Stream_Changes, e1, g4']
noncomputable def formH (c : G_Change) : Bool := bif c.f_Kind == 2 then (bif !(eq_G_Contact c.f_Is zeroC) then true else bif c.f_Kind == 1 then (bif !(eq_G_Contact c.f_Was zeroC) then true else eq_G_Contact c.f_Was c.f_Is) else eq_G_Contact c.f_Was c.f_Is) else bif c.f_Kind == 1 then (bif !(eq_G_Contact c.f_Was zeroC) then true else eq_G_Contact c.f_Was c.f_Is) else eq_G_Contact c.f_Was c.f_Is
def lowH (p : Option G_Change) (c : G_Change) : Bool := match p with | none => false | some q => decide (c.f_No ≤ q.f_No)
noncomputable def chkH (p : Option G_Change) (c : G_Change) : Int :=
  bif !inB c.f_No 1 1000 then 1 else bif !inB c.f_Kind 1 3 then 4 else bif (c.f_Kind != 1) && (chk c.f_Was != 0) then chk c.f_Was else bif (c.f_Kind != 2) && (chk c.f_Is != 0) then chk c.f_Is else
  bif formH c then 3 else bif lowH p c then 7 else 0
theorem log_changeFault_is (d : List G_Change) (hf : ∀ c ∈ d, FineH c) (hl : d.length ≤ 100000) {c : G_Change} {cs : List G_Change} {i : Nat} {p : Option G_Change} (h : d.drop i = c :: cs) (hp : PrevAt d i p) (R : Type) (k : Int → Option R) : log_changeFault d (i : Int) k = k (chkH p c) := by
  have fc := hf c (mem_drop h)
  have j17 : ∀ (e0 : Int → Option R), log_changeFault_J17 I_log_changeFault d (i : Int) c e0 = e0 (bif lowH p c then 7 else 0) := by
    intro e0
    unfold log_changeFault_J17
    cases p with
    | none =>
      rw [decide_eq_false (show ¬ ((i : Int) > 0) by unfold PrevAt at hp; omega)]
      rfl
    | some q =>
      obtain ⟨h0, ys, hq⟩ := hp
      rw [decide_eq_true (show ((i : Int) > 0) by omega), cond_true, prev_drop hq h0 (by omega)]
      simp only [log_changeFault_J18, log_changeFault_J19, lowH]
      cases decide (c.f_No ≤ q.f_No) <;> rfl
  have j14 : ∀ (e0 : Int → Option R), log_changeFault_J14 I_log_changeFault d (i : Int) c e0 = e0 (bif formH c then 3 else bif lowH p c then 7 else 0) := by
    intro e0
    have hz : (⟨0, 0, [], [], 0, 0, [], []⟩ : G_Contact) = zeroC := rfl
    simp only [log_changeFault_J14, log_changeFault_J16, j17, formH, hz]
    cases c.f_Kind == 2 <;> cases c.f_Kind == 1 <;> cases eq_G_Contact c.f_Is zeroC <;> cases eq_G_Contact c.f_Was zeroC <;> cases eq_G_Contact c.f_Was c.f_Is <;> rfl
  have j10 : ∀ (e0 : Int → Option R), log_changeFault_J10 I_log_changeFault d (i : Int) c e0 = e0 (bif (c.f_Kind != 2) && (chk c.f_Is != 0) then chk c.f_Is else bif formH c then 3 else bif lowH p c then 7 else 0) := by
    intro e0
    simp only [I_log_changeFault] at j14
    simp only [log_changeFault_J10, I_log_changeFault, log_CheckContact_is fc.is, j14]
    cases c.f_Kind != 2 <;> cases chk c.f_Is != 0 <;> rfl
  simp only [I_log_changeFault] at j10
  simp only [log_changeFault, log_changeFault_, I_log_changeFault, get_drop h, kit_Outside_is, log_CheckContact_is fc.was, j10, chkH]
  cases inB c.f_No 1 1000 <;> cases inB c.f_Kind 1 3 <;> cases c.f_Kind != 1 <;> cases chk c.f_Was != 0 <;> rfl
noncomputable def faultHs : Option G_Change → List G_Change → Int
  | _, [] => 0
  | p, c :: cs => bif chkH p c != 0 then chkH p c else faultHs (some c) cs
theorem log_CheckChanges_loop (d : List G_Change) (hf : ∀ c ∈ d, FineH c) (hl : d.length ≤ 100000) : ∀ (xs : List G_Change) (n i : Nat) (p : Option G_Change), d.drop i = xs → PrevAt d i p → xs.length < n → ∀ (R : Type) (k : Int → Option R),
    log_CheckChanges_L4 I_log_CheckChanges n d (d.length : Int) (i : Int) k (k 0) = k (faultHs p xs)
  | _, 0, _, _, _, _, h, _, _ => by omega
  | [], n + 1, i, p, h, _, _, _, _ => by rw [log_CheckChanges_L4, ge_drop h]; rfl
  | c :: cs, n + 1, i, p, h, hp, hn, R, k => by
    have h' := drop_cons h
    have ih := log_CheckChanges_loop d hf hl cs n (i + 1) (some c) h'.2.2.1 (prevAt_next h) (by simp at hn; omega) R k
    rw [log_CheckChanges_L4, lt_drop h]
    simp only [I_log_CheckChanges] at ih
    simp only [cond_true, I_log_CheckChanges, log_changeFault_is d hf hl h hp, faultHs, w64_succ (show i < 4611686018427387904 by omega)]
    cases hq : chkH p c != 0 with
    | true => rfl
    | false => exact ih
theorem Q_ChangesFault_step (d : List G_Change) (hf : ∀ c ∈ d, FineH c) (hl : d.length ≤ 100000) {c : G_Change} {cs : List G_Change} {i : Nat} {p : Option G_Change} (h : d.drop i = c :: cs) (hp : PrevAt d i p) (n : Nat) (R : Type) (k : Int → Option R) (e1 : Option R) :
    Q_ChangesFault_L4 I_Q_ChangesFault (n + 1) d d (d.length : Int) (i : Int) k e1 = bif chkH p c != 0 then k (chkH p c) else Q_ChangesFault_L4 I_Q_ChangesFault n d d (d.length : Int) ((i + 1 : Nat) : Int) k e1 := by
  have fc := hf c (mem_drop h)
  have h' := drop_cons h
  have hz : (⟨0, 0, [], [], 0, 0, [], []⟩ : G_Contact) = zeroC := rfl
  rw [Q_ChangesFault_L4, lt_drop h]
  generalize hX : Q_ChangesFault_L4 I_Q_ChangesFault n d d (d.length : Int) ((i + 1 : Nat) : Int) k e1 = X
  have hX' : Q_ChangesFault_L4 I_Q_ChangesFault n d d (d.length : Int) (w64 ((i : Int) + 1)) k e1 = X := by rw [w64_succ (by omega)]; exact hX
  simp only [cond_true, get_drop h, hX']
  have tail : (bif decide ((i : Int) > 0) then get_ d (w64 ((i : Int) - 1)) fun x33 => bif decide (c.f_No ≤ x33.f_No) then k 7 else X else X) = bif lowH p c then k 7 else X := by
    cases p with
    | none =>
      rw [decide_eq_false (show ¬ ((i : Int) > 0) by unfold PrevAt at hp; omega)]; rfl
    | some q =>
      obtain ⟨h0, ys, hq⟩ := hp
      rw [decide_eq_true (show ((i : Int) > 0) by omega), cond_true, prev_drop hq h0 (by omega)]
      rfl
  simp only [tail, I_Q_ChangesFault, Q_in_is, Q_ContactFault_is fc.was, Q_ContactFault_is fc.is, hz, chkH, formH]
  generalize lowH p c = lw
  cases hno : inB c.f_No 1 1000 with
  | false => rfl
  | true =>
    cases hkd : inB c.f_Kind 1 3 with
    | false => rfl
    | true =>
      have hk3 : c.f_Kind = 1 ∨ c.f_Kind = 2 ∨ c.f_Kind = 3 := by have := inB_is.1 hkd; omega
      simp only [Bool.not_true, cond_false]
      rcases hk3 with hk | hk | hk
      · have b1 : (c.f_Kind == 1) = true := by rw [hk]; rfl
        have b2 : (c.f_Kind == 2) = false := by rw [hk]; rfl
        have b3 : (c.f_Kind != 1) = false := by rw [hk]; rfl
        have b4 : (c.f_Kind != 2) = true := by rw [hk]; rfl
        simp only [b1, b2, b3, b4, cond_true, cond_false, Bool.false_and, Bool.true_and]
        cases hi : chk c.f_Is != 0 <;> cases eq_G_Contact c.f_Was zeroC <;> cases eq_G_Contact c.f_Was c.f_Is <;> cases lw <;> simp only [cond_true, cond_false, Bool.not_true, Bool.not_false, hi] <;> rfl
      · have b1 : (c.f_Kind == 1) = false := by rw [hk]; rfl
        have b2 : (c.f_Kind == 2) = true := by rw [hk]; rfl
        have b3 : (c.f_Kind != 1) = true := by rw [hk]; rfl
        have b4 : (c.f_Kind != 2) = false := by rw [hk]; rfl
        simp only [b1, b2, b3, b4, cond_true, cond_false, Bool.false_and, Bool.true_and]
        cases hi : chk c.f_Was != 0 <;> cases eq_G_Contact c.f_Is zeroC <;> cases eq_G_Contact c.f_Was c.f_Is <;> cases lw <;> simp only [cond_true, cond_false, Bool.not_true, Bool.not_false, hi] <;> rfl
      · have b1 : (c.f_Kind == 1) = false := by rw [hk]; rfl
        have b2 : (c.f_Kind == 2) = false := by rw [hk]; rfl
        have b3 : (c.f_Kind != 1) = true := by rw [hk]; rfl
        have b4 : (c.f_Kind != 2) = true := by rw [hk]; rfl
        simp only [b1, b2, b3, b4, cond_true, cond_false, Bool.false_and, Bool.true_and]
        cases hi : chk c.f_Was != 0 <;> cases hi2 : chk c.f_Is != 0 <;> cases eq_G_Contact c.f_Was c.f_Is <;> cases lw <;> simp only [cond_true, cond_false, Bool.not_true, Bool.not_false, hi, hi2] <;> rfl
theorem Q_ChangesFault_loop (d : List G_Change) (hf : ∀ c ∈ d, FineH c) (hl : d.length ≤ 100000) : ∀ (xs : List G_Change) (n i : Nat) (p : Option G_Change), d.drop i = xs → PrevAt d i p → xs.length < n → ∀ (R : Type) (k : Int → Option R),
    Q_ChangesFault_L4 I_Q_ChangesFault n d d (d.length : Int) (i : Int) k (k 0) = k (faultHs p xs)
  | _, 0, _, _, _, _, h, _, _ => by omega
  | [], n + 1, i, p, h, _, _, _, _ => by rw [Q_ChangesFault_L4, ge_drop h]; rfl
  | c :: cs, n + 1, i, p, h, hp, hn, R, k => by
    have h' := drop_cons h
    have ih := Q_ChangesFault_loop d hf hl cs n (i + 1) (some c) h'.2.2.1 (prevAt_next h) (by simp at hn; omega) R k
    rw [Q_ChangesFault_step d hf hl h hp, ih, faultHs]
    cases chkH p c != 0 <;> rfl
noncomputable def faultH (d : List G_Change) : Int := bif decide ((d.length : Int) > 1000) then 2 else faultHs none d
theorem log_CheckChanges_is {d : List G_Change} (hf : ∀ c ∈ d, FineH c) (hl : d.length ≤ 100000) (R : Type) (k : Int → Option R) : log_CheckChanges d k = k (faultH d) := by
  have h : log_CheckChanges_L4 I_log_CheckChanges I_log_CheckChanges.N d (d.length : Int) 0 k (k 0) = k (faultHs none d) := log_CheckChanges_loop d hf hl d I_log_CheckChanges.N 0 none rfl rfl (show d.length < NN by have := NN_ok; omega) R k
  simp only [log_CheckChanges, log_CheckChanges_, faultH, h]
  cases decide ((d.length : Int) > 1000) <;> rfl
theorem Q_ChangesFault_is {d : List G_Change} (hf : ∀ c ∈ d, FineH c) (hl : d.length ≤ 100000) (R : Type) (k : Int → Option R) : Q_ChangesFault d k = k (faultH d) := by
  have h : Q_ChangesFault_L4 I_Q_ChangesFault I_Q_ChangesFault.N d d (d.length : Int) 0 k (k 0) = k (faultHs none d) := Q_ChangesFault_loop d hf hl d I_Q_ChangesFault.N 0 none rfl rfl (show d.length < NN by have := NN_ok; omega) R k
  simp only [Q_ChangesFault, Q_ChangesFault_, faultH, h]
  cases decide ((d.length : Int) > 1000) <;> rfl
end Go.Am
set_option linter.unusedVariables false
set_option linter.unusedSectionVars false
set_option linter.unusedSimpArgs false
set_option maxRecDepth 100000
namespace Go.Am
open Go Go.Proofs
variable [Fuel]
abbrev IncH (l : List G_Change) : Prop := l.Pairwise fun x y => x.f_No < y.f_No
structure RightH (p : Option G_Change) (c : G_Change) : Prop where
  no : inB c.f_No 1 1000 = true
  kind : inB c.f_Kind 1 3 = true
  was : c.f_Kind ≠ 1 → chk c.f_Was = 0
  is : c.f_Kind ≠ 2 → chk c.f_Is = 0
  form : formH c = false
  low : lowH p c = false
theorem chkH_zero {p : Option G_Change} {c : G_Change} (h : chkH p c = 0) : RightH p c := by
  unfold chkH at h
  cases h1 : inB c.f_No 1 1000 with
  | false => simp [h1] at h
  | true =>
    cases h2 : inB c.f_Kind 1 3 with
    | false => simp [h1, h2] at h
    | true =>
      cases h3 : ((c.f_Kind != 1) && (chk c.f_Was != 0)) with
      | true =>
        simp only [h1, h2, h3, Bool.not_true, cond_false, cond_true] at h
        rw [h] at h3; simp at h3
      | false =>
        cases h4 : ((c.f_Kind != 2) && (chk c.f_Is != 0)) with
        | true =>
          simp only [h1, h2, h3, h4, Bool.not_true, cond_false, cond_true] at h
          rw [h] at h4; simp at h4
        | false =>
          cases h5 : formH c with
          | true => simp [h1, h2, h3, h4, h5] at h
          | false =>
            cases h6 : lowH p c with
            | true => simp [h1, h2, h3, h4, h5, h6] at h
            | false =>
              refine ⟨h1, h2, fun hk => ?_, fun hk => ?_, h5, h6⟩
              · have : (c.f_Kind != 1) = true := by simpa using hk
                rw [this, Bool.true_and] at h3; simpa using h3
              · have : (c.f_Kind != 2) = true := by simpa using hk
                rw [this, Bool.true_and] at h4; simpa using h4
theorem faultHs_inc : ∀ (l : List G_Change) (p : Option G_Change), faultHs p l = 0 → IncH l ∧ (∀ q, p = some q → ∀ c ∈ l, q.f_No < c.f_No) ∧ ∀ c ∈ l, ∃ q, chkH q c = 0
  | [], p, _ => ⟨.nil, fun q _ c h => (by cases h), fun c h => by cases h⟩
  | c :: cs, p, h => by
    unfold faultHs at h
    cases hc : chkH p c != 0 with
    | true => rw [hc] at h; simp at h; rw [h] at hc; cases hc
    | false =>
      rw [hc] at h
      simp only [cond_false] at h
      obtain ⟨h1, h2, h3⟩ := faultHs_inc cs (some c) h
      have hz : chkH p c = 0 := by simpa using hc
      have hlow : lowH p c = false := (chkH_zero hz).low
      refine ⟨List.pairwise_cons.2 ⟨fun y hy => h2 c rfl y hy, h1⟩, fun q hq y hy => ?_, fun y hy => ?_⟩
      · subst hq
        have hqc : q.f_No < c.f_No := by simpa [lowH] using hlow
        rcases List.mem_cons.1 hy with rfl | hy
        · exact hqc
        · have := h2 c rfl y hy; omega
      · rcases List.mem_cons.1 hy with rfl | hy
        · exact ⟨p, hz⟩
        · exact h3 y hy
theorem faultH_inc {l : List G_Change} (h : faultH l = 0) : IncH l ∧ l.length ≤ 1000 ∧ ∀ c ∈ l, ∃ q, chkH q c = 0 := by
  unfold faultH at h
  cases hl : decide ((l.length : Int) > 1000) with
  | true => rw [hl] at h; cases h
  | false =>
    rw [hl] at h
    obtain ⟨h1, _, h3⟩ := faultHs_inc l none h
    exact ⟨h1, by simp at hl; omega, h3⟩
theorem inc_one {l : List G_Change} (h : IncH l) {x y : G_Change} (hx : x ∈ l) (hy : y ∈ l) (e : x.f_No = y.f_No) : x = y := by
  induction l with
  | nil => cases hx
  | cons c cs ih =>
    have h' := List.pairwise_cons.1 h
    rcases List.mem_cons.1 hx with hx1 | hx1 <;> rcases List.mem_cons.1 hy with hy1 | hy1
    · rw [hx1, hy1]
    · subst hx1; have := h'.1 y hy1; omega
    · subst hy1; have := h'.1 x hx1; omega
    · exact ih h'.2 hx1 hy1
theorem inc_nodup {l : List G_Change} (h : IncH l) : l.Nodup := List.Pairwise.imp (fun h e => by subst e; omega) h
theorem inc_ext {l m : List G_Change} (hl : IncH l) (hm : IncH m) (h : ∀ x, x ∈ l ↔ x ∈ m) : l = m :=
  List.Perm.eq_of_pairwise (le := fun a b => a.f_No < b.f_No) (fun a b _ _ h1 h2 => by omega) hl hm ((List.perm_ext_iff_of_nodup (inc_nodup hl) (inc_nodup hm)).2 h)
theorem dedupFrom_mem {α : Type} {eq : α → α → Bool} (he : ∀ x y, eq x y = true ↔ x = y) : ∀ (l : List α) (p x : α), x ∈ l → x = p ∨ x ∈ dedupFrom eq p l
  | [], _, _, h => by cases h
  | y :: ys, p, x, h => by
    unfold dedupFrom
    split
    · rename_i hy
      have hyp := (he y p).1 hy
      rcases List.mem_cons.1 h with rfl | h
      · exact .inl hyp
      · rcases dedupFrom_mem he ys y x h with rfl | h
        · exact .inl hyp
        · exact .inr h
    · rcases List.mem_cons.1 h with rfl | h
      · exact .inr (by simp)
      · rcases dedupFrom_mem he ys y x h with rfl | h
        · exact .inr (by simp)
        · exact .inr (by simp [h])
theorem compactP_mem {α : Type} {eq : α → α → Bool} (he : ∀ x y, eq x y = true ↔ x = y) {l : List α} {x : α} : x ∈ compactP eq l ↔ x ∈ l := by
  refine ⟨compactP_sub, fun h => ?_⟩
  cases l with
  | nil => cases h
  | cons y ys =>
    rcases List.mem_cons.1 h with rfl | h
    · exact List.mem_cons_self
    · rcases dedupFrom_mem he ys y x h with rfl | h
      · exact List.mem_cons_self
      · exact List.mem_cons_of_mem _ h
theorem dedupFrom_sublist {α : Type} (eq : α → α → Bool) : ∀ (l : List α) (p : α), (dedupFrom eq p l).Sublist l
  | [], _ => List.Sublist.slnil
  | y :: ys, p => by
    unfold dedupFrom
    split
    · exact (dedupFrom_sublist eq ys y).cons y
    · exact (dedupFrom_sublist eq ys y).cons_cons y
theorem compactP_sublist {α : Type} (eq : α → α → Bool) (l : List α) : (compactP eq l).Sublist l := by
  cases l with
  | nil => exact List.Sublist.slnil
  | cons y ys => exact (dedupFrom_sublist eq ys y).cons_cons y
theorem dedupFrom_apart {α : Type} {eq : α → α → Bool} (he : ∀ x y, eq x y = true ↔ x = y) : ∀ (l : List α) (p : α), (∀ y ys, dedupFrom eq p l = y :: ys → y ≠ p)
  | [], _, y, ys, h => by cases h
  | z :: zs, p, y, ys, h => by
    unfold dedupFrom at h
    split at h
    · rename_i hz
      have := (he z p).1 hz
      subst this
      exact dedupFrom_apart he zs z y ys h
    · rename_i hz
      have e := (List.cons.inj h).1
      subst e
      intro e2
      exact hz ((he z p).2 e2)
def adjN (p : G_Change) : List G_Change → Bool
  | [] => false
  | y :: ys => bif p.f_No == y.f_No then true else adjN y ys
def adjNL : List G_Change → Bool
  | [] => false
  | x :: xs => adjN x xs
theorem adjN_inc : ∀ (l : List G_Change) (p : G_Change), (p :: l).Pairwise (fun x y => x.f_No ≤ y.f_No) → adjN p l = false → IncH (p :: l)
  | [], p, _, _ => by simp [IncH]
  | y :: ys, p, h, ha => by
    unfold adjN at ha
    cases he : p.f_No == y.f_No with
    | true => rw [he] at ha; cases ha
    | false =>
      rw [he] at ha
      have h' := List.pairwise_cons.1 h
      have ih := adjN_inc ys y h'.2 ha
      have hne : p.f_No ≠ y.f_No := by simpa using he
      have hle := h'.1 y (by simp)
      have ih' := List.pairwise_cons.1 ih
      refine List.pairwise_cons.2 ⟨fun z hz => ?_, ih⟩
      rcases List.mem_cons.1 hz with rfl | hz
      · omega
      · have := ih'.1 z hz; omega
theorem adjN_some : ∀ (l : List G_Change) (p : G_Change), adjN p l = true → ∃ x y, x ∈ p :: l ∧ y ∈ p :: l ∧ x.f_No = y.f_No ∧ (∃ pre post, p :: l = pre ++ x :: y :: post)
  | [], p, h => by cases h
  | y :: ys, p, h => by
    unfold adjN at h
    cases he : p.f_No == y.f_No with
    | true => exact ⟨p, y, by simp, by simp, by simpa using he, [], ys, rfl⟩
    | false =>
      rw [he] at h
      obtain ⟨x, z, h1, h2, h3, pre, post, h4⟩ := adjN_some ys y h
      exact ⟨x, z, by simp only [List.mem_cons] at h1 ⊢; exact .inr h1, by simp only [List.mem_cons] at h2 ⊢; exact .inr h2, h3, p :: pre, post, by rw [h4]; rfl⟩
def subN (x y : G_Change) : Int := x.f_No - y.f_No
theorem ords_subN : Ords subN := ⟨fun x y => by unfold subN; omega, fun x y z h1 h2 => by unfold subN at *; omega⟩
def mergeH (a b : List G_Change) : List G_Change := compactP eq_G_Change (sortI subN (a ++ b))
theorem mergeH_mem {a b : List G_Change} {x : G_Change} : x ∈ mergeH a b ↔ x ∈ a ∨ x ∈ b := by
  unfold mergeH
  rw [compactP_mem eq_G_Change_is, sortI_mem, List.mem_append]
theorem mergeH_le (a b : List G_Change) : (mergeH a b).Pairwise (fun x y => x.f_No ≤ y.f_No) := by
  have h := sortI_sorted (ords_subN.pre (fun _ => True)) (a ++ b) (fun _ _ => trivial)
  exact (h.sublist (compactP_sublist _ _)).imp (fun h => by unfold subN at h; omega)
theorem mergeH_apart (a b : List G_Change) : ∀ pre x y post, mergeH a b = pre ++ x :: y :: post → x ≠ y := by
  have key : ∀ (l : List G_Change) (p : G_Change) pre x y post, p :: dedupFrom eq_G_Change p l = pre ++ x :: y :: post → x ≠ y := by
    intro l
    induction l with
    | nil => intro p pre x y post h; cases pre <;> simp [dedupFrom] at h
    | cons z zs ih =>
      intro p pre x y post h
      cases pre with
      | nil =>
        simp only [List.nil_append, List.cons.injEq] at h
        obtain ⟨rfl, h⟩ := h
        exact fun e => dedupFrom_apart eq_G_Change_is (z :: zs) p y post h e.symm
      | cons q pre =>
        simp only [List.cons_append, List.cons.injEq] at h
        obtain ⟨rfl, h⟩ := h
        unfold dedupFrom at h
        split at h
        · exact ih z (z :: pre) x y post (by rw [h]; rfl)
        · exact ih z pre x y post h
  intro pre x y post h
  unfold mergeH at h
  cases hs : sortI subN (a ++ b) with
  | nil => rw [hs] at h; simp [compactP] at h
  | cons z zs => rw [hs] at h; exact key zs z pre x y post h
def confB (a b : List G_Change) : Bool := a.any fun x => b.any fun y => x.f_No == y.f_No && !(eq_G_Change x y)
theorem confB_false {a b : List G_Change} (h : confB a b = false) {x y : G_Change} (hx : x ∈ a) (hy : y ∈ b) (e : x.f_No = y.f_No) : x = y := by
  unfold confB at h
  rw [List.any_eq_false] at h
  have h1 := h x hx
  rw [Bool.not_eq_true, List.any_eq_false] at h1
  have h2 := h1 y hy
  simp only [Bool.and_eq_true, beq_iff_eq, Bool.not_eq_true', not_and, Bool.not_eq_false] at h2
  exact (eq_G_Change_is x y).1 (h2 e)
theorem adj_conf {a b : List G_Change} (ha : IncH a) (hb : IncH b) : adjNL (mergeH a b) = confB a b := by
  cases hc : confB a b with
  | true =>
    cases hm : adjNL (mergeH a b) with
    | true => rfl
    | false =>
      exfalso
      unfold confB at hc
      rw [List.any_eq_true] at hc
      obtain ⟨x, hx, h1⟩ := hc
      rw [List.any_eq_true] at h1
      obtain ⟨y, hy, h2⟩ := h1
      simp only [Bool.and_eq_true, beq_iff_eq, Bool.not_eq_true'] at h2
      have hne : x ≠ y := fun e => by rw [(eq_G_Change_is x y).2 e] at h2; cases h2.2
      have hinc : IncH (mergeH a b) := by
        have hle := mergeH_le a b
        cases hs : mergeH a b with
        | nil => exact .nil
        | cons z zs => rw [hs] at hle hm; exact adjN_inc zs z hle hm
      exact hne (inc_one hinc (mergeH_mem.2 (.inl hx)) (mergeH_mem.2 (.inr hy)) h2.1)
  | false =>
    cases hm : adjNL (mergeH a b) with
    | false => rfl
    | true =>
      exfalso
      cases hs : mergeH a b with
      | nil => rw [hs] at hm; cases hm
      | cons z zs =>
        have hm' := hm
        rw [hs] at hm'
        obtain ⟨x, y, h1, h2, h3, pre, post, h4⟩ := adjN_some zs z hm'
        have hne := mergeH_apart a b pre x y post (hs.trans h4)
        rw [← hs] at h1 h2
        rcases mergeH_mem.1 h1 with h1 | h1 <;> rcases mergeH_mem.1 h2 with h2 | h2
        · exact hne (inc_one ha h1 h2 h3)
        · exact hne (confB_false hc h1 h2 h3)
        · exact hne (confB_false hc h2 h1 h3.symm).symm
        · exact hne (inc_one hb h1 h2 h3)
def cmpN (x y : G_Change) : Int := cmpI x.f_No y.f_No
theorem ords_cmpN : Ords cmpN := ords_cmpI.on fun c : G_Change => c.f_No
def newH (a b : List G_Change) : List G_Change := b.filter fun c => !(a.any fun o => o.f_No == c.f_No)
theorem both_inc {a b : List G_Change} (ha : IncH a) (hb : IncH b) (hc : confB a b = false) : sortI cmpN (a ++ newH a b) = mergeH a b := by
  have hnew : ∀ x ∈ newH a b, x ∈ b ∧ ∀ o ∈ a, o.f_No ≠ x.f_No := fun x hx => by
    unfold newH at hx
    rw [List.mem_filter] at hx
    refine ⟨hx.1, fun o ho e => ?_⟩
    have := hx.2
    simp only [Bool.not_eq_true', List.any_eq_false, beq_iff_eq] at this
    exact this o ho e
  have hnd : ((a ++ newH a b).map (·.f_No)).Nodup := by
    rw [List.map_append, List.nodup_append]
    refine ⟨?_, ?_, ?_⟩
    · exact List.pairwise_map.2 (ha.imp (fun h e => by omega))
    · exact List.pairwise_map.2 ((hb.sublist (List.filter_sublist)).imp (fun h e => by omega))
    · intro u hu v hv e
      obtain ⟨x, hx, rfl⟩ := List.mem_map.1 hu
      obtain ⟨y, hy, rfl⟩ := List.mem_map.1 hv
      exact (hnew y hy).2 x hx e
  have h1 : IncH (sortI cmpN (a ++ newH a b)) := by
    have hs := sortI_sorted (ords_cmpN.pre (fun _ => True)) (a ++ newH a b) (fun _ _ => trivial)
    have hn : ((sortI cmpN (a ++ newH a b)).map (·.f_No)).Nodup := ((sortI_perm cmpN (a ++ newH a b)).map _).nodup_iff.2 hnd
    have hn' := List.pairwise_map.1 hn
    refine (hs.and hn').imp (fun {x y} h => ?_)
    obtain ⟨h1, h2⟩ := h
    unfold cmpN cmpI at h1
    by_cases hlt : x.f_No < y.f_No
    · exact hlt
    · rw [decide_eq_false hlt] at h1
      by_cases hgt : x.f_No > y.f_No
      · rw [decide_eq_true hgt] at h1; exact absurd h1 (by decide)
      · omega
  have h2 : IncH (mergeH a b) := by
    have hle := mergeH_le a b
    have had := adj_conf ha hb
    rw [hc] at had
    cases hs : mergeH a b with
    | nil => exact .nil
    | cons z zs => rw [hs] at hle had; exact adjN_inc zs z hle had
  refine inc_ext h1 h2 (fun x => ?_)
  rw [sortI_mem, List.mem_append, mergeH_mem]
  constructor
  · rintro (h | h)
    · exact .inl h
    · exact .inr (hnew x h).1
  · rintro (h | h)
    · exact .inl h
    · by_cases hq : ∃ o ∈ a, o.f_No = x.f_No
      · obtain ⟨o, ho, e⟩ := hq
        rw [← confB_false hc ho h e]; exact .inl ho
      · refine .inr ?_
        unfold newH
        rw [List.mem_filter]
        refine ⟨h, ?_⟩
        simp only [Bool.not_eq_true', List.any_eq_false, beq_iff_eq]
        exact fun o ho e => hq ⟨o, ho, e⟩
end Go.Am
set_option linter.unusedVariables false
set_option linter.unusedSectionVars false
set_option linter.unusedSimpArgs false
set_option maxRecDepth 100000
namespace Go.Am
open Go Go.Proofs
variable [Fuel]
def mergedH (a b : List G_Change) : List G_Change × Int := bif confB a b then ([], 13) else bif decide (((mergeH a b).length : Int) > 1000) then ([], 2) else (mergeH a b, 0)
theorem mergeH_len (a b : List G_Change) : (mergeH a b).length ≤ a.length + b.length := by
  have h1 := compactP_len eq_G_Change (sortI subN (a ++ b))
  have h2 := sortI_length subN (a ++ b)
  simp at h2
  unfold mergeH; omega
theorem catH_is {a b : List G_Change} (ha : a.length ≤ 100000) (hb : b.length ≤ 100000) (R : Type) (k : List G_Change → Option R) : slices_Concat__Change [a, b] k = k (a ++ b) := by
  rw [li_slices_Concat__Change]; exact sCat_two a b ha hb (by omega) (by have := NN_ok; omega) k
theorem cloneH_is {l : List G_Change} (hl : l.length ≤ 1000000) (R : Type) (k : List G_Change → Option R) : slices_Clone__Change l k = k l := X_clone_is l hl (by omega) k
theorem equalH_is {l : List G_Change} (hl : l.length ≤ 1000000) (R : Type) (k : Bool → Option R) : slices_Equal__Change l l k = k true := by
  rw [li_slices_Equal__Change]; exact sEqual_same (by have := NN_ok; omega) (by have := NN_ok; omega) (fun x => by rw [(eq_G_Change_is x x).2 rfl]; rfl) k
theorem compH_is {l : List G_Change} (hl : l.length ≤ 100000) (R : Type) (k : List G_Change → Option R) : slices_Compact__Change l k = k (compactP eq_G_Change l) := by
  rw [li_slices_Compact__Change]
  exact sComp_is eq_G_Change (fun _ => True) (fun x y _ _ R k => rfl) l (by have := NN_ok; omega) (by have := NN_ok; omega) (fun _ _ => trivial) k
theorem log_MergeChanges_1_is {x y : G_Change} (hx : FineH x) (hy : FineH y) (R : Type) (k : Int → Option R) : log_MergeChanges_1 x y k = k (subN x y) := by
  have h1 := hx.no
  have h2 := hy.no
  show k (w64 (x.f_No - y.f_No)) = k (x.f_No - y.f_No)
  rw [w64_eq (by omega) (by omega)]
theorem sortH_is {l : List G_Change} (hf : ∀ c ∈ l, FineH c) (hl : l.length ≤ 20) (R : Type) (k : List G_Change → Option R) : slices_SortStableFunc__Change_log_MergeChanges_1 l k = k (sortI subN l) := by
  simp only [slices_SortStableFunc__Change_log_MergeChanges_1, slices_SortStableFunc__Change_log_MergeChanges_1_, I_slices_SortStableFunc__Change_log_MergeChanges_1, li_slices_stableCmpFunc__Change_log_MergeChanges_1]
  exact sSta_is subN FineH (fun x y hx hy => log_MergeChanges_1_is hx hy) l hf hl (by have := NN_ok; omega) (by have := NN_ok; omega) _ (fun l a b R k => by rw [li_slices_insertionSortCmpFunc__Change_log_MergeChanges_1]) k
theorem Q_ChangesOf_2_is {x y : G_Change} (hx : FineH x) (hy : FineH y) (R : Type) (k : Int → Option R) : Q_ChangesOf_2 x y k = k (cmpN x y) := by
  have h1 := hx.no
  have h2 := hy.no
  simp only [Q_ChangesOf_2, Q_ChangesOf_2_, I_Q_ChangesOf_2, Q_sign_is, cmpN]
  rw [sgn_cmp (by omega) (by omega)]
theorem log_MergeChanges_loop (l : List G_Change) (hl : l.length ≤ 100000) : ∀ (rest : List G_Change) (p : G_Change) (n i : Nat), l.drop (i - 1) = p :: rest → 1 ≤ i → rest.length < n → ∀ (R : Type) (e0 : Int → List G_Change → Option R) (e1 : List G_Change → Option R),
    log_MergeChanges_L12 I_log_MergeChanges n (i : Int) l e0 e1 = bif adjN p rest then e0 13 l else e1 l
  | _, _, 0, _, _, _, h, _, _, _ => by omega
  | [], p, n + 1, i, h, hi, _, R, e0, e1 => by
    have hd := drop_cons h
    simp at hd
    rw [log_MergeChanges_L12, decide_eq_false (by omega)]; rfl
  | y :: ys, p, n + 1, i, h, hi, hn, R, e0, e1 => by
    have hd := drop_cons h
    have hj : i - 1 + 1 = i := by omega
    rw [hj] at hd
    have hd2 := drop_cons hd.2.2.1
    have ih := log_MergeChanges_loop l hl ys y n (i + 1) (by simpa using hd.2.2.1) (by omega) (by simp at hn; omega) R e0 e1
    rw [log_MergeChanges_L12, lt_drop hd.2.2.1]
    simp only [cond_true]
    rw [w64_pred (by omega) (by omega), inr_drop h, at_drop h, inr_drop hd.2.2.1, at_drop hd.2.2.1, w64_succ (by omega), ih]
    simp only [adjN]
    cases p.f_No == y.f_No <;> rfl
theorem log_MergeChanges_is {a b : List G_Change} (ha : ∀ c ∈ a, FineH c) (hb : ∀ c ∈ b, FineH c) (hl : a.length + b.length ≤ 20) (R : Type) (k : List G_Change → Int → Option R) :
    log_MergeChanges a b k = bif orL [faultH a, faultH b] != 0 then k [] (orL [faultH a, faultH b]) else k (mergedH a b).1 (mergedH a b).2 := by
  have hloop : ∀ (R : Type) (e0 : List G_Change → List G_Change → Int → Option R) (e1 : List G_Change → List G_Change → Option R), log_MergeChanges_L2 I_log_MergeChanges I_log_MergeChanges.N a b ([a, b].length : Int) 0 [a, b] e0 e1 = bif orL [faultH a, faultH b] != 0 then e0 a b (orL [faultH a, faultH b]) else e1 a b := fun R e0 e1 => by
    obtain ⟨m, e, hm⟩ := NN_succ
    obtain ⟨m, rfl⟩ : ∃ q, m = q + 2 := ⟨m - 2, by omega⟩
    have w1 : w64 (0 + 1) = ((1 : Nat) : Int) := w64_eq (by omega) (by omega)
    have w2 : w64 (((1 : Nat) : Int) + 1) = ((2 : Nat) : Int) := by rw [w64_eq (by omega) (by omega)]; rfl
    have i0 : ∀ {R : Type} (k : Option R), inr [a, b] 0 k = k := fun k => inr_nat (i := 0) (by simp) k
    have a0 : ∀ {R : Type} (k : List G_Change → Option R), at_ [a, b] 0 k = k a := fun k => at_nat (i := 0) rfl k
    have i1 : ∀ {R : Type} (k : Option R), inr [a, b] ((1 : Nat) : Int) k = k := fun k => inr_nat (i := 1) (by simp) k
    have a1 : ∀ {R : Type} (k : List G_Change → Option R), at_ [a, b] ((1 : Nat) : Int) k = k b := fun k => at_nat (i := 1) rfl k
    have d0 : decide ((0 : Int) < ([a, b].length : Int)) = true := rfl
    have d1 : decide (((1 : Nat) : Int) < ([a, b].length : Int)) = true := rfl
    have d2 : decide (((2 : Nat) : Int) < ([a, b].length : Int)) = false := rfl
    rw [show I_log_MergeChanges.N = m + 2 + 1 from e]
    simp only [log_MergeChanges_L2, d0, d1, d2, w1, w2, i0, i1, a0, a1, I_log_MergeChanges, cond_true, cond_false, log_CheckChanges_is ha (show a.length ≤ 100000 by omega), log_CheckChanges_is hb (show b.length ≤ 100000 by omega), orL]
    cases h1 : faultH a != 0 with
    | true => simp only [cond_true, h1]
    | false =>
      simp only [cond_false]
      cases h2 : faultH b != 0 with
      | true => simp only [cond_true, h2]
      | false => simp only [cond_false, bne_self_eq_false]
  have hab : ∀ c ∈ a ++ b, FineH c := fun c h => by
    rcases List.mem_append.1 h with h1 | h1
    · exact ha c h1
    · exact hb c h1
  have hco : ∀ (R : Type) (k : List G_Change → Option R), slices_Compact__Change (sortI subN (a ++ b)) k = k (mergeH a b) := fun R k => compH_is (by rw [sortI_length]; simp; omega) R k
  have hml := mergeH_len a b
  have hadj : ∀ (R : Type) (e0 : Int → List G_Change → Option R) (e1 : List G_Change → Option R), log_MergeChanges_L12 I_log_MergeChanges I_log_MergeChanges.N 1 (mergeH a b) e0 e1 = bif adjNL (mergeH a b) then e0 13 (mergeH a b) else e1 (mergeH a b) := fun R e0 e1 => by
    cases hm : mergeH a b with
    | nil =>
      obtain ⟨m, e, _⟩ := NN_succ
      rw [show I_log_MergeChanges.N = m + 1 from e, log_MergeChanges_L12]
      rfl
    | cons x xs =>
      exact log_MergeChanges_loop (x :: xs) (by rw [← hm]; omega) xs x I_log_MergeChanges.N 1 rfl (by omega) (by rw [hm] at hml; simp at hml; show xs.length < NN; have := NN_ok; omega) R e0 e1
  simp only [I_log_MergeChanges] at hloop hadj
  simp only [log_MergeChanges, log_MergeChanges_, I_log_MergeChanges, hloop, catH_is (show a.length ≤ 100000 by omega) (show b.length ≤ 100000 by omega), sortH_is hab (show (a ++ b).length ≤ 20 by simp; omega), hco, hadj, mergedH]
  cases h0 : orL [faultH a, faultH b] != 0 with
  | true => simp only [cond_true]
  | false =>
    simp only [cond_false]
    have hz : orL [faultH a, faultH b] = 0 := by simpa using h0
    have hz' := orL_zero.1 hz
    rw [adj_conf (faultH_inc (hz' _ (by simp))).1 (faultH_inc (hz' _ (by simp))).1]
    cases confB a b <;> cases decide (((mergeH a b).length : Int) > 1000) <;> rfl
theorem confB_cons (a : List G_Change) (c : G_Change) (cs : List G_Change) : confB a (c :: cs) = ((a.any fun x => x.f_No == c.f_No && !(eq_G_Change x c)) || confB a cs) := by
  rw [Bool.eq_iff_iff]
  simp only [confB, List.any_cons, List.any_eq_true, Bool.or_eq_true]
  constructor
  · rintro ⟨x, hx, h | h⟩
    · exact .inl ⟨x, hx, h⟩
    · exact .inr ⟨x, hx, h⟩
  · rintro (⟨x, hx, h⟩ | ⟨x, hx, h⟩)
    · exact ⟨x, hx, .inl h⟩
    · exact ⟨x, hx, .inr h⟩
theorem findIdx_some {α : Type} {p : α → Bool} {l : List α} {j : Nat} (h : l.findIdx? p = some j) : ∃ x, l[j]? = some x ∧ p x = true ∧ j < l.length := by
  rw [List.findIdx?_eq_some_iff_getElem] at h
  obtain ⟨hj, hp, _⟩ := h
  exact ⟨l[j], List.getElem?_eq_getElem hj, hp, hj⟩
theorem idxH_is {l : List G_Change} (c : G_Change) (hl : l.length ≤ 100000) (R : Type) (k : Int → List G_Change → G_Change → Option R) : slices_IndexFunc__Change_Q_ChangesOf_1 l c k = k (idxI (fun o => o.f_No == c.f_No) l) l c := by
  rw [li_slices_IndexFunc__Change_Q_ChangesOf_1]
  exact sIndexO_is (N := NN) (@Q_ChangesOf_1 _) (fun o => o.f_No == c.f_No) c l (fun x _ R k => rfl) (by have := NN_ok; omega) (by have := NN_ok; omega) k
theorem Q_ChangesOf_loop (a b : List G_Change) (ha : IncH a) (hb : IncH b) (hla : a.length ≤ 1000) (hlb : b.length ≤ 1000) : ∀ (xs dn : List G_Change) (n i : Nat), b.drop i = xs → b = dn ++ xs → xs.length < n → ∀ (R : Type) (e0 : Int → List G_Change → Option R) (e1 : List G_Change → Option R), (∀ u v, e0 13 u = e0 13 v) →
    Q_ChangesOf_L3 I_Q_ChangesOf n b (b.length : Int) (i : Int) (a ++ newH a dn) e0 e1 = bif confB a xs then e0 13 [] else e1 (a ++ newH a b)
  | _, _, 0, _, _, _, h, _, _, _, _ => by omega
  | [], dn, n + 1, i, h, hd, _, R, e0, e1, _ => by
    rw [Q_ChangesOf_L3, ge_drop h]
    rw [List.append_nil] at hd
    have : confB a [] = false := by simp [confB]
    rw [this, hd]; rfl
  | c :: cs, dn, n + 1, i, h, hd, hn, R, e0, e1, he => by
    have h' := drop_cons h
    have hdn : ∀ y ∈ dn, y.f_No < c.f_No := by
      rw [hd] at hb
      exact fun y hy => (List.pairwise_append.1 hb).2.2 y hy c (by simp)
    have hnewl : (newH a dn).length ≤ dn.length := List.length_filter_le _ _
    have hdl : dn.length ≤ b.length := by rw [hd]; simp
    have hix := idxH_is (l := a ++ newH a dn) c (by simp; omega) R
    have hge := idxI_ge (fun o : G_Change => o.f_No == c.f_No) (a ++ newH a dn)
    have hnone : ∀ y ∈ newH a dn, y.f_No ≠ c.f_No := fun y hy => by
      have := hdn y ((List.mem_filter.1 hy).1); omega
    rw [Q_ChangesOf_L3, lt_drop h]
    simp only [cond_true, get_drop h, I_Q_ChangesOf, hix]
    cases hany : a.any (fun o => o.f_No == c.f_No) with
    | false =>
      have hall : (a ++ newH a dn).any (fun o => o.f_No == c.f_No) = false := by
        rw [List.any_append, hany, Bool.false_or, List.any_eq_false]
        intro y hy
        have := hnone y hy
        simpa using this
      rw [hall] at hge
      have hlt : decide (idxI (fun o : G_Change => o.f_No == c.f_No) (a ++ newH a dn) < 0) = true := by simp at hge ⊢; omega
      have hnew : a ++ newH a dn ++ [c] = a ++ newH a (dn ++ [c]) := by
        unfold newH
        rw [List.filter_append, List.append_assoc]
        congr 2
        simp [hany]
      have ih := Q_ChangesOf_loop a b ha hb hla hlb cs (dn ++ [c]) n (i + 1) h'.2.2.1 (by rw [hd]; simp) (by simp at hn; omega) R e0 e1 he
      simp only [I_Q_ChangesOf] at ih
      rw [hlt, cond_true, room1 _ c 208 (by simp; omega) (by omega), cond_true, hnew, w64_succ (by omega), ih, confB_cons]
      have : (a.any fun x => x.f_No == c.f_No && !(eq_G_Change x c)) = false := by
        rw [List.any_eq_false] at hany ⊢
        intro x hx
        have := hany x hx
        simp at this ⊢
        intro e; exact absurd e this
      rw [this, Bool.false_or]
    | true =>
      have hall : (a ++ newH a dn).any (fun o => o.f_No == c.f_No) = true := by rw [List.any_append, hany, Bool.true_or]
      rw [hall] at hge
      have hlt : decide (idxI (fun o : G_Change => o.f_No == c.f_No) (a ++ newH a dn) < 0) = false := by simp at hge ⊢; omega
      rw [hlt, cond_false]
      cases hfi : (a ++ newH a dn).findIdx? (fun o => o.f_No == c.f_No) with
      | none =>
        exfalso
        unfold idxI at hge
        rw [hfi] at hge
        simp at hge
      | some j =>
        obtain ⟨o, ho, hpo, hj⟩ := findIdx_some hfi
        have hidx : idxI (fun o : G_Change => o.f_No == c.f_No) (a ++ newH a dn) = (j : Int) := by unfold idxI; rw [hfi]
        have hoe : o.f_No = c.f_No := by simpa using hpo
        have hoa : o ∈ a := by
          rcases List.mem_append.1 (List.mem_of_getElem? ho) with h1 | h1
          · exact h1
          · exact absurd hoe (hnone o h1)
        rw [hidx, inr_nat hj, at_nat ho, confB_cons]
        cases heq : eq_G_Change o c with
        | false =>
          have : (a.any fun x => x.f_No == c.f_No && !(eq_G_Change x c)) = true := by
            rw [List.any_eq_true]
            exact ⟨o, hoa, by simp [hoe, heq]⟩
          rw [this, Bool.true_or]
          simp only [Bool.not_false, cond_true]
          exact he _ _
        | true =>
          have hoc := (eq_G_Change_is o c).1 heq
          have : (a.any fun x => x.f_No == c.f_No && !(eq_G_Change x c)) = false := by
            rw [List.any_eq_false]
            intro x hx
            simp only [Bool.and_eq_true, beq_iff_eq, Bool.not_eq_true', not_and, Bool.not_eq_false]
            intro e
            have : x = o := inc_one ha hx hoa (by rw [hoe]; exact e)
            rw [this]; exact heq
          have hnew : a ++ newH a dn = a ++ newH a (dn ++ [c]) := by
            unfold newH
            rw [List.filter_append]
            congr 1
            simp [hany]
          have ih := Q_ChangesOf_loop a b ha hb hla hlb cs (dn ++ [c]) n (i + 1) h'.2.2.1 (by rw [hd]; simp) (by simp at hn; omega) R e0 e1 he
          simp only [I_Q_ChangesOf] at ih
          rw [this, Bool.false_or]
          simp only [Bool.not_true, cond_false]
          rw [hnew, w64_succ (by omega)]
          exact ih
theorem Q_ChangesOf_is {a b : List G_Change} (ha : ∀ c ∈ a, FineH c) (hb : ∀ c ∈ b, FineH c) (ia : IncH a) (ib : IncH b) (hla : a.length ≤ 1000) (hlb : b.length ≤ 1000) (R : Type) (k : List G_Change → Int → Option R) :
    Q_ChangesOf a b k = k (mergedH a b).1 (mergedH a b).2 := by
  have hloop : ∀ (R : Type) (e0 : Int → List G_Change → Option R) (e1 : List G_Change → Option R), (∀ u v, e0 13 u = e0 13 v) → Q_ChangesOf_L3 I_Q_ChangesOf I_Q_ChangesOf.N b (b.length : Int) 0 a e0 e1 = bif confB a b then e0 13 [] else e1 (a ++ newH a b) := fun R e0 e1 he => by
    have h := Q_ChangesOf_loop a b ia ib hla hlb b [] I_Q_ChangesOf.N 0 rfl rfl (show b.length < NN by have := NN_ok; omega) R e0 e1 he
    have hn : newH a [] = [] := rfl
    rw [hn, List.append_nil] at h
    exact h
  have hml := mergeH_len a b
  simp only [I_Q_ChangesOf] at hloop
  simp only [Q_ChangesOf, Q_ChangesOf_, I_Q_ChangesOf, cloneH_is (show a.length ≤ 1000000 by omega)]
  rw [hloop R _ _ (fun _ _ => rfl)]
  unfold mergedH
  cases hc : confB a b with
  | true => rfl
  | false =>
    simp only [cond_false]
    have hnl : (newH a b).length ≤ b.length := List.length_filter_le _ _
    have hfine : ∀ c ∈ a ++ newH a b, FineH c := fun c h => by
      rcases List.mem_append.1 h with h1 | h1
      · exact ha c h1
      · exact hb c ((List.mem_filter.1 h1).1)
    have hone : ∀ x ∈ a ++ newH a b, ∀ y ∈ a ++ newH a b, cmpN x y = 0 → x = y := by
      intro x hx y hy e
      have e' : x.f_No = y.f_No := cmpI_zero.1 e
      have key : ∀ x ∈ a ++ newH a b, x ∈ mergeH a b := fun x hx => by
        rw [← both_inc ia ib hc, sortI_mem]; exact hx
      have hinc : IncH (mergeH a b) := by
        have hle := mergeH_le a b
        have had := adj_conf ia ib
        rw [hc] at had
        cases hs : mergeH a b with
        | nil => exact .nil
        | cons z zs => rw [hs] at hle had; exact adjN_inc zs z hle had
      exact inc_one hinc (key x hx) (key y hy) e'
    have hsort : ∀ (R : Type) (k : List G_Change → Option R), slices_SortFunc__Change_Q_ChangesOf_2 (a ++ newH a b) k = k (mergeH a b) := fun R k => by
      rw [← both_inc ia ib hc]
      exact X_sortf_one ords_cmpN (by simp; omega) hone (fun x hx y hy => Q_ChangesOf_2_is (hfine x hx) (hfine y hy)) k
    rw [hsort]
    cases decide (((mergeH a b).length : Int) > 1000) <;> rfl
end Go.Am
