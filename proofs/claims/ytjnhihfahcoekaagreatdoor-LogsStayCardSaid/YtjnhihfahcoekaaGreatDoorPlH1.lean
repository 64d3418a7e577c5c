/- The plain law, in Lean alone: H1. No condition: lemmas for the claim. -/
import Derived.Test.YtjnhihfahcoekaaGreatDoorPlC2
set_option linter.unusedVariables false
set_option linter.unusedSectionVars false
set_option linter.unusedSimpArgs false
set_option maxRecDepth 100000
namespace Go.Am
open Go Go.Proofs
variable [Fuel]
def zeroC : G_Contact := ⟨0, 0, [], [], 0, 0, [], []⟩
structure FineH (c : G_Change) : Prop where
 no : Mid c.f_No
 kind : Mid c.f_Kind
 was : Fine c.f_Was
 is : Fine c.f_Is
def FineS (c : G_Change) : Prop := FineH c ∧ c.f_Is.f_Heard ≤ 1099511627777
theorem fine_zero : Fine zeroC := ⟨⟨by decide, by decide⟩, ⟨by decide, by decide⟩, ⟨by decide, by decide⟩, ⟨by decide, by decide⟩, by decide, by decide, by decide, by decide⟩
noncomputable def chP (n : Nat) (l : List G_Contact) (m v : Int) (out : List G_Change) (c : G_Change) (s : G_Stream) {R : Type} (e0 : G_Stream → List G_Change → Option R) : Option R :=
 bif decide ((out.length + [c].length) * 208 ≤ roomBytes') then z20z_L3 I_z20z n l m (w64 (v + 1)) s (out ++ [c]) e0 else none
noncomputable def chF (n : Nat) (l : List G_Contact) (m v : Int) (out : List G_Change) (no kind : Int) (was is : G_Contact) (s : G_Stream) {R : Type} (e0 : G_Stream → List G_Change → Option R) : Option R :=
 z50z s 50 fun f s1 => bif f then Stream_Odd s1 1 9 fun r s2 => Stream_Odd s2 1 3 fun q s3 => chP n l m v out ⟨r, q, was, is⟩ s3 e0 else chP n l m v out ⟨no, kind, was, is⟩ s1 e0
noncomputable def chT (n : Nat) (l : List G_Contact) (m v : Int) (out : List G_Change) (no kind : Int) (was is : G_Contact) (s : G_Stream) {R : Type} (e0 : G_Stream → List G_Change → Option R) : Option R :=
 bif kind == 1 then chF n l m v out no kind zeroC is s e0 else bif kind == 2 then chF n l m v out no kind was zeroC s e0 else chF n l m v out no kind was is s e0
def moreHeard (x : G_Contact) : G_Contact := ⟨x.f_At, x.f_Mode, x.f_Band, x.f_Call, x.f_Sent, w64 (x.f_Heard + 1), x.f_Gave, x.f_Got⟩
theorem ch_step (n : Nat) (l : List G_Contact) (m v : Int) (s : G_Stream) (out : List G_Change) (R : Type) (e0 : G_Stream → List G_Change → Option R) : z20z_L3 I_z20z (n + 1) l m v s out e0 =
  bif decide (v < m) then z64z s 1 2 fun f s1 => z58z s1 [1, 2, 3] fun kind s2 => z64z s2 0 100 fun t1 s3 => z48z s3 t1 fun c1 s4 => z64z s4 0 100 fun t2 s5 => z48z s5 t2 fun c2 s6 =>
   bif decide ((l.length : Int) > 0) then z50z s6 6 fun f6 s7 =>
    bif !f6 then z53z s7 (l.length : Int) fun i s8 => get_ l i fun x => z50z s8 3 fun f3 s9 => bif f3 then z53z s9 (l.length : Int) fun j s10 => get_ l j fun y => chT n l m v out (w64 (w64 (2 * v) + f)) kind x (moreHeard y) s10 e0 else chT n l m v out (w64 (w64 (2 * v) + f)) kind x c2 s9 e0
    else z50z s7 3 fun f3 s9 => bif f3 then z53z s9 (l.length : Int) fun j s10 => get_ l j fun y => chT n l m v out (w64 (w64 (2 * v) + f)) kind c1 (moreHeard y) s10 e0 else chT n l m v out (w64 (w64 (2 * v) + f)) kind c1 c2 s9 e0
   else chT n l m v out (w64 (w64 (2 * v) + f)) kind c1 c2 s6 e0
  else e0 s out := by kernel_rfl
theorem chF_gives (n : Nat) (l : List G_Contact) (m v : Int) (out : List G_Change) (ho : out.length ≤ 1000) (no kind : Int) (h1 : Mid no) (h2 : Mid kind) {was is : G_Contact} (hw : Fine was) (hi : Fine is) (hh : is.f_Heard ≤ 1099511627777) {b : Int} {s : G_Stream} (hs : SOk b s) (hb : b ≤ 1099511620000) :
  ∃ (c : G_Change) (s' : G_Stream), FineS c ∧ SOk (b + 5) s' ∧ ∀ (R : Type) (e0 : G_Stream → List G_Change → Option R), chF n l m v out no kind was is s e0 = z20z_L3 I_z20z n l m (w64 (v + 1)) s' (out ++ [c]) e0 := by
 obtain ⟨f, s1, z1, e1⟩ := z50z_gives hs 50 (by omega) (by omega)
 cases f with
 | true =>
  obtain ⟨r, s2, r1, r2, z2, e2⟩ := Stream_Odd_gives z1 1 9 (by omega) (by omega) (by omega) (by omega) (by omega)
  obtain ⟨q, s3, q1, q2, z3, e3⟩ := Stream_Odd_gives z2 1 3 (by omega) (by omega) (by omega) (by omega) (by omega)
  exact ⟨⟨r, q, was, is⟩, s3, ⟨⟨⟨by simp only; omega, by simp only; omega⟩, ⟨by simp only; omega, by simp only; omega⟩, hw, hi⟩, hh⟩, z3.mono (by omega), fun R e0 => by simp only [chF, e1, cond_true, e2, e3, chP, room1 out _ 208 (by omega) (by omega)]⟩
 | false => exact ⟨⟨no, kind, was, is⟩, s1, ⟨⟨h1, h2, hw, hi⟩, hh⟩, z1.mono (by omega), fun R e0 => by simp only [chF, e1, cond_false, chP, room1 out _ 208 (by omega) (by omega), cond_true]⟩
theorem chT_gives (n : Nat) (l : List G_Contact) (m v : Int) (out : List G_Change) (ho : out.length ≤ 1000) (no kind : Int) (h1 : Mid no) (h2 : Mid kind) {was is : G_Contact} (hw : Fine was) (hi : Fine is) (hh : is.f_Heard ≤ 1099511627777) {b : Int} {s : G_Stream} (hs : SOk b s) (hb : b ≤ 1099511620000) :
  ∃ (c : G_Change) (s' : G_Stream), FineS c ∧ SOk (b + 5) s' ∧ ∀ (R : Type) (e0 : G_Stream → List G_Change → Option R), chT n l m v out no kind was is s e0 = z20z_L3 I_z20z n l m (w64 (v + 1)) s' (out ++ [c]) e0 := by
 cases k1 : kind == 1 with
 | true =>
  obtain ⟨c, s', g1, g2, g3⟩ := chF_gives n l m v out ho no kind h1 h2 fine_zero hi hh hs hb
  exact ⟨c, s', g1, g2, fun R e0 => by simp only [chT, k1, cond_true, g3]⟩
 | false =>
  cases k2 : kind == 2 with
  | true =>
   obtain ⟨c, s', g1, g2, g3⟩ := chF_gives n l m v out ho no kind h1 h2 hw fine_zero (by decide) hs hb
   exact ⟨c, s', g1, g2, fun R e0 => by simp only [chT, k1, k2, cond_true, cond_false, g3]⟩
  | false =>
   obtain ⟨c, s', g1, g2, g3⟩ := chF_gives n l m v out ho no kind h1 h2 hw hi hh hs hb
   exact ⟨c, s', g1, g2, fun R e0 => by simp only [chT, k1, k2, cond_false, g3]⟩
theorem more_fine {x : G_Contact} (h : Fine x) (h2 : x.f_Heard ≤ 1099511627776) : Fine (moreHeard x) ∧ (moreHeard x).f_Heard ≤ 1099511627777 := by
 have hw : w64 (x.f_Heard + 1) = x.f_Heard + 1 := w64_eq (by have := h.heard; omega) (by omega)
 have e : moreHeard x = ⟨x.f_At, x.f_Mode, x.f_Band, x.f_Call, x.f_Sent, x.f_Heard + 1, x.f_Gave, x.f_Got⟩ := by unfold moreHeard; rw [hw]
 rw [e]
 exact ⟨⟨h.at1, h.mode, h.sent, ⟨by have := h.heard; simp only; omega, by simp only; omega⟩, h.band, h.call, h.gave, h.got⟩, by simp only; omega⟩
theorem pick_of {l : List G_Contact} {b : Int} {s : G_Stream} (hs : SOk b s) (hb : b ≤ 1099511627000) (hl : l.length ≤ 1000) (h0 : 0 < l.length) :
  ∃ (x : G_Contact) (s' : G_Stream), x ∈ l ∧ SOk (b + 1) s' ∧ ∀ (R : Type) (k : G_Contact → G_Stream → Option R), (z53z s (l.length : Int) fun i s8 => get_ l i fun x => k x s8) = k x s' := by
 obtain ⟨r, s1, r1, r2, w1, f1⟩ := z53z_gives hs (l.length : Int) (by omega) (by omega)
 obtain ⟨r, rfl⟩ : ∃ m : Nat, r = (m : Int) := ⟨r.toNat, by omega⟩
 have hr : r < l.length := by have := r2 (by omega); omega
 exact ⟨l[r], s1, List.getElem_mem hr, w1, fun R k => by rw [f1]; exact get_nat (List.getElem?_eq_getElem hr) _⟩
theorem z20z_loop (l : List G_Contact) (hl : l.length ≤ 1000) (hf : ∀ c ∈ l, Fine c ∧ c.f_Heard ≤ 1099511627776) (m : Nat) (hm : m ≤ 100) : ∀ (n i : Nat) (s : G_Stream) (out : List G_Change) (b : Int), m - i < n → i ≤ m → SOk (b + 90 * (i : Int)) s → b ≤ 1000000 → out.length = i → (∀ c ∈ out, FineS c) →
  ∃ (r : List G_Change) (s' : G_Stream), SOk (b + 90 * (m : Int)) s' ∧ r.length = m ∧ (∀ c ∈ r, FineS c) ∧ ∀ (R : Type) (e0 : G_Stream → List G_Change → Option R), z20z_L3 I_z20z n l (m : Int) (i : Int) s out e0 = e0 s' r
 | 0, i, _, _, _, h, _, _, _, _, _ => by omega
 | n + 1, i, s, out, b, h, hi, hs, hb, ho, hfo => by
  by_cases hc : i < m
  ·obtain ⟨f, s1, f1, f2, z1, e1⟩ := z64z_gives hs 1 2 (by omega) (by omega) (by omega) (by omega) (by omega)
   obtain ⟨kind, s2, hk, z2, e2⟩ := z58z_gives z1 [1, 2, 3] (by omega) (by simp) (by simp)
   obtain ⟨t1, s3, t11, t12, z3, e3⟩ := z64z_gives z2 0 100 (by omega) (by omega) (by omega) (by omega) (by omega)
   obtain ⟨c1, s4, hc1, hh1, z4, e4⟩ := z48z_gives z3 t1 (by omega) (by omega) (by omega)
   obtain ⟨t2, s5, t21, t22, z5, e5⟩ := z64z_gives z4 0 100 (by omega) (by omega) (by omega) (by omega) (by omega)
   obtain ⟨c2, s6, hc2, hh2, z6, e6⟩ := z48z_gives z5 t2 (by omega) (by omega) (by omega)
   simp only [List.mem_cons, List.not_mem_nil, or_false] at hk
   have hw1 : w64 (2 * (i : Int)) = 2 * (i : Int) := w64_eq (by omega) (by omega)
   have hw : w64 (w64 (2 * (i : Int)) + f) = 2 * (i : Int) + f := by rw [hw1]; exact w64_eq (by omega) (by omega)
   have hno : Mid (w64 (w64 (2 * (i : Int)) + f)) := by rw [hw]; exact ⟨by omega, by omega⟩
   have hkind : Mid kind := ⟨by omega, by omega⟩
   have step : ∃ (c : G_Change) (s' : G_Stream), FineS c ∧ SOk (b + 90 * ((i + 1 : Nat) : Int)) s' ∧ ∀ (R : Type) (e0 : G_Stream → List G_Change → Option R), z20z_L3 I_z20z (n + 1) l (m : Int) (i : Int) s out e0 = z20z_L3 I_z20z n l (m : Int) (w64 ((i : Int) + 1)) s' (out ++ [c]) e0 := by
    have hd : decide ((i : Int) < (m : Int)) = true := decide_eq_true (by omega)
    by_cases h0 : 0 < l.length
    ·have hd0 : decide ((l.length : Int) > 0) = true := decide_eq_true (by omega)
     obtain ⟨f6, s7, z7, e7⟩ := z50z_gives z6 6 (by omega) (by omega)
     cases f6 with
     | false =>
      obtain ⟨x, s8, hx, z8, e8⟩ := pick_of z7 (by omega) hl h0
      obtain ⟨f3, s9, z9, e9⟩ := z50z_gives z8 3 (by omega) (by omega)
      cases f3 with
      | true =>
       obtain ⟨y, s10, hy, z10, e10⟩ := pick_of z9 (by omega) hl h0
       obtain ⟨y1, y2⟩ := more_fine (hf y hy).1 (hf y hy).2
       obtain ⟨c, s', g1, g2, g3⟩ := chT_gives n l m i out (by omega) _ kind hno hkind (hf x hx).1 y1 y2 z10 (by omega)
       exact ⟨c, s', g1, g2.mono (by omega), fun R e0 => by simp only [ch_step, hd, hd0, cond_true, e1, e2, e3, e4, e5, e6, e7, Bool.not_false, e8, e9, e10, g3]⟩
      | false =>
       obtain ⟨c, s', g1, g2, g3⟩ := chT_gives n l m i out (by omega) _ kind hno hkind (hf x hx).1 hc2 (by omega) z9 (by omega)
       exact ⟨c, s', g1, g2.mono (by omega), fun R e0 => by simp only [ch_step, hd, hd0, cond_true, cond_false, e1, e2, e3, e4, e5, e6, e7, Bool.not_false, e8, e9, g3]⟩
     | true =>
      obtain ⟨f3, s9, z9, e9⟩ := z50z_gives z7 3 (by omega) (by omega)
      cases f3 with
      | true =>
       obtain ⟨y, s10, hy, z10, e10⟩ := pick_of z9 (by omega) hl h0
       obtain ⟨y1, y2⟩ := more_fine (hf y hy).1 (hf y hy).2
       obtain ⟨c, s', g1, g2, g3⟩ := chT_gives n l m i out (by omega) _ kind hno hkind hc1 y1 y2 z10 (by omega)
       exact ⟨c, s', g1, g2.mono (by omega), fun R e0 => by simp only [ch_step, hd, hd0, cond_true, cond_false, e1, e2, e3, e4, e5, e6, e7, Bool.not_true, e9, e10, g3]⟩
      | false =>
       obtain ⟨c, s', g1, g2, g3⟩ := chT_gives n l m i out (by omega) _ kind hno hkind hc1 hc2 (by omega) z9 (by omega)
       exact ⟨c, s', g1, g2.mono (by omega), fun R e0 => by simp only [ch_step, hd, hd0, cond_true, cond_false, e1, e2, e3, e4, e5, e6, e7, Bool.not_true, e9, g3]⟩
    ·have hd0 : decide ((l.length : Int) > 0) = false := decide_eq_false (by omega)
     obtain ⟨c, s', g1, g2, g3⟩ := chT_gives n l m i out (by omega) _ kind hno hkind hc1 hc2 (by omega) z6 (by omega)
     exact ⟨c, s', g1, g2.mono (by omega), fun R e0 => by simp only [ch_step, hd, hd0, cond_true, cond_false, e1, e2, e3, e4, e5, e6, g3]⟩
   obtain ⟨c, s', g1, g2, g3⟩ := step
   obtain ⟨r, s'', k1, k2, k3, k4⟩ := z20z_loop l hl hf m hm n (i + 1) s' (out ++ [c]) b (by omega) (by omega) g2 hb (by simp [ho]) (fun x hx => by
    rcases List.mem_append.1 hx with h | h
    ·exact hfo x h
    ·simp at h; rw [h]; exact g1)
   refine ⟨r, s'', k1, k2, k3, fun R e0 => ?_⟩
   rw [g3, w64_succ (by omega)]
   exact k4 R e0
  ·refine ⟨out, s, hs.mono (by omega), by omega, hfo, fun R e0 => ?_⟩
   rw [ch_step, decide_eq_false (by omega)]; rfl
theorem z20z_gives {l : List G_Contact} (hl : l.length ≤ 1000) (hf : ∀ c ∈ l, Fine c ∧ c.f_Heard ≤ 1099511627776) {b : Int} {s : G_Stream} (hs : SOk b s) (hb : b ≤ 900000) :
  ∃ (r : List G_Change) (s' : G_Stream), SOk (b + 1000) s' ∧ r.length ≤ 6 ∧ (∀ c ∈ r, FineS c) ∧ ∀ (R : Type) (k : List G_Change → G_Stream → Option R), z20z s l k = k r s' := by
 obtain ⟨m, s1, m1, m2, z1, e1⟩ := z64z_gives hs 0 6 (by omega) (by omega) (by omega) (by omega) (by omega)
 obtain ⟨m, rfl⟩ : ∃ q : Nat, m = (q : Int) := ⟨m.toNat, by omega⟩
 obtain ⟨r, s', g1, g2, g3, g4⟩ := z20z_loop l hl hf m (by omega) NN 0 s1 [] (b + 100) (by have := NN_ok; omega) (by omega) (z1.mono (by omega)) (by omega) rfl (fun c h => by cases h)
 have g4' : ∀ (R : Type) (e0 : G_Stream → List G_Change → Option R), z20z_L3 I_z20z I_z20z.N l (m : Int) 0 s1 [] e0 = e0 s' r := g4
 refine ⟨r, s', g1.mono (by omega), by omega, g3, fun R k => ?_⟩
 simp only [I_z20z] at g4'
 simp only [z20z, z20z_, I_z20z, e1, g4']
noncomputable def formH (c : G_Change) : Bool := bif c.f_Kind == 2 then (bif !(eq_G_Contact c.f_Is zeroC) then true else bif c.f_Kind == 1 then (bif !(eq_G_Contact c.f_Was zeroC) then true else eq_G_Contact c.f_Was c.f_Is) else eq_G_Contact c.f_Was c.f_Is) else bif c.f_Kind == 1 then (bif !(eq_G_Contact c.f_Was zeroC) then true else eq_G_Contact c.f_Was c.f_Is) else eq_G_Contact c.f_Was c.f_Is
def lowH (p : Option G_Change) (c : G_Change) : Bool := match p with | none => false | some q => decide (c.f_No ≤ q.f_No)
noncomputable def chkH (p : Option G_Change) (c : G_Change) : Int :=
 bif !inB c.f_No 1 1000 then 1 else bif !inB c.f_Kind 1 3 then 4 else bif (c.f_Kind != 1) && (chk c.f_Was != 0) then chk c.f_Was else bif (c.f_Kind != 2) && (chk c.f_Is != 0) then chk c.f_Is else
 bif formH c then 3 else bif lowH p c then 7 else 0
theorem z7z_is (d : List G_Change) (hf : ∀ c ∈ d, FineH c) (hl : d.length ≤ 100000) {c : G_Change} {cs : List G_Change} {i : Nat} {p : Option G_Change} (h : d.drop i = c :: cs) (hp : PrevAt d i p) (R : Type) (k : Int → Option R) : z7z d (i : Int) k = k (chkH p c) := by
 have fc := hf c (mem_drop h)
 have j17 : ∀ (e0 : Int → Option R), z7z_J17 I_z7z d (i : Int) c e0 = e0 (bif lowH p c then 7 else 0) := by
  intro e0
  unfold z7z_J17
  cases p with
  | none =>
   rw [decide_eq_false (show ¬ ((i : Int) > 0) by unfold PrevAt at hp; omega)]
   rfl
  | some q =>
   obtain ⟨h0, ys, hq⟩ := hp
   rw [decide_eq_true (show ((i : Int) > 0) by omega), cond_true, prev_drop hq h0 (by omega)]
   simp only [z7z_J18, z7z_J19, lowH]
   cases decide (c.f_No ≤ q.f_No) <;> rfl
 have j14 : ∀ (e0 : Int → Option R), z7z_J14 I_z7z d (i : Int) c e0 = e0 (bif formH c then 3 else bif lowH p c then 7 else 0) := by
  intro e0
  have hz : (⟨0, 0, [], [], 0, 0, [], []⟩ : G_Contact) = zeroC := rfl
  simp only [z7z_J14, z7z_J16, j17, formH, hz]
  cases c.f_Kind == 2 <;> cases c.f_Kind == 1 <;> cases eq_G_Contact c.f_Is zeroC <;> cases eq_G_Contact c.f_Was zeroC <;> cases eq_G_Contact c.f_Was c.f_Is <;> rfl
 have j10 : ∀ (e0 : Int → Option R), z7z_J10 I_z7z d (i : Int) c e0 = e0 (bif (c.f_Kind != 2) && (chk c.f_Is != 0) then chk c.f_Is else bif formH c then 3 else bif lowH p c then 7 else 0) := by
  intro e0
  simp only [I_z7z] at j14
  simp only [z7z_J10, I_z7z, z56z_is fc.is, j14]
  cases c.f_Kind != 2 <;> cases chk c.f_Is != 0 <;> rfl
 simp only [I_z7z] at j10
 simp only [z7z, z7z_, I_z7z, get_drop h, z45z_is, z56z_is fc.was, j10, chkH]
 cases inB c.f_No 1 1000 <;> cases inB c.f_Kind 1 3 <;> cases c.f_Kind != 1 <;> cases chk c.f_Was != 0 <;> rfl
noncomputable def faultHs : Option G_Change → List G_Change → Int
 | _, [] => 0
 | p, c :: cs => bif chkH p c != 0 then chkH p c else faultHs (some c) cs
theorem z30z_loop (d : List G_Change) (hf : ∀ c ∈ d, FineH c) (hl : d.length ≤ 100000) : ∀ (xs : List G_Change) (n i : Nat) (p : Option G_Change), d.drop i = xs → PrevAt d i p → xs.length < n → ∀ (R : Type) (k : Int → Option R),
  z30z_L4 I_z30z n d (d.length : Int) (i : Int) k (k 0) = k (faultHs p xs)
 | _, 0, _, _, _, _, h, _, _ => by omega
 | [], n + 1, i, p, h, _, _, _, _ => by rw [z30z_L4, ge_drop h]; rfl
 | c :: cs, n + 1, i, p, h, hp, hn, R, k => by
  have h' := drop_cons h
  have ih := z30z_loop d hf hl cs n (i + 1) (some c) h'.2.2.1 (prevAt_next h) (by simp at hn; omega) R k
  rw [z30z_L4, lt_drop h]
  simp only [I_z30z] at ih
  simp only [cond_true, I_z30z, z7z_is d hf hl h hp, faultHs, w64_succ (show i < 4611686018427387904 by omega)]
  cases hq : chkH p c != 0 with
  | true => rfl
  | false => exact ih
noncomputable def faultH (d : List G_Change) : Int := bif decide ((d.length : Int) > 1000) then 2 else faultHs none d
theorem z30z_is {d : List G_Change} (hf : ∀ c ∈ d, FineH c) (hl : d.length ≤ 100000) (R : Type) (k : Int → Option R) : z30z d k = k (faultH d) := by
 have h : z30z_L4 I_z30z I_z30z.N d (d.length : Int) 0 k (k 0) = k (faultHs none d) := z30z_loop d hf hl d I_z30z.N 0 none rfl rfl (show d.length < NN by have := NN_ok; omega) R k
 simp only [z30z, z30z_, faultH, h]
 cases decide ((d.length : Int) > 1000) <;> rfl
end Go.Am
