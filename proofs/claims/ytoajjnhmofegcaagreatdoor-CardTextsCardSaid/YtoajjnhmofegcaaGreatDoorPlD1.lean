/- The plain law, in Lean alone: D1, D2, D3. No condition: lemmas for the claim. -/
import Derived.Test.YtoajjnhmofegcaaGreatDoorPlS1
import Derived.Test.YtoajjnhmofegcaaGreatDoorPlB1
import Derived.Test.YtoajjnhmofegcaaGreatDoorPlK
set_option linter.unusedVariables false
set_option linter.unusedSectionVars false
set_option linter.unusedSimpArgs false
set_option maxRecDepth 100000
namespace Go.Am
open Go Go.Proofs
variable [Fuel]
structure FineK (c : G_Card) : Prop where
 at1 : Mid c.f_At
 kind : Mid c.f_Kind
 mode : Mid c.f_Mode
 call : c.f_Call ∈ callsL
 band : c.f_Band ∈ keysL
def cmpK (x y : G_Card) : Int := orL [cmpI x.f_At y.f_At, Lib.compareBytes x.f_Call y.f_Call, Lib.compareBytes x.f_Band y.f_Band, cmpI x.f_Mode y.f_Mode, cmpI x.f_Kind y.f_Kind]
theorem club_compareCards_is (x y : G_Card) (R : Type) (k : Int → Option R) : club_compareCards x y k = k (cmpK x y) := by
 simp only [club_compareCards, club_compareCards_, I_club_compareCards, cmpK, cmp_Compare__int_is, strings_Compare_is]
 rw [cmp_Or__int_is _ (by simp)]
theorem Q_CardOrder_is {x y : G_Card} (hx : FineK x) (hy : FineK y) (R : Type) (k : Int → Option R) : Q_CardOrder x y k = k (cmpK x y) := by
 have a1 := hx.at1; have a2 := hx.mode; have a3 := hx.kind; have b1 := hy.at1; have b2 := hy.mode; have b3 := hy.kind
 simp only [Q_CardOrder, Q_CardOrder_, I_Q_CardOrder, Q_sign_is, strings_Compare_is, cmpK, orL]
 rw [sgn_cmp ⟨by omega, by omega⟩ ⟨by omega, by omega⟩, sgn_cmp ⟨by omega, by omega⟩ ⟨by omega, by omega⟩, sgn_cmp ⟨by omega, by omega⟩ ⟨by omega, by omega⟩, ne_cmpI x.f_At y.f_At, ne_cb x.f_Call, ne_cb x.f_Band, ne_cmpI x.f_Mode y.f_Mode]
 cases cmpI x.f_At y.f_At != 0 <;> cases Lib.compareBytes x.f_Call y.f_Call != 0 <;> cases Lib.compareBytes x.f_Band y.f_Band != 0 <;> cases cmpI x.f_Mode y.f_Mode != 0 <;> simp only [cond_true, cond_false]
 cases h : cmpI x.f_Kind y.f_Kind != 0 with
 | true => rfl
 | false =>
  have : cmpI x.f_Kind y.f_Kind = 0 := by simpa using h
  rw [this]; rfl
theorem sortK_ord {l : List G_Card} (hf : ∀ c ∈ l, FineK c) (hl : l.length ≤ 20) (R : Type) (k : List G_Card → Option R) : slices_SortStableFunc__Card_Q_CardOrder l k = k (sortI cmpK l) := by
 simp only [slices_SortStableFunc__Card_Q_CardOrder, slices_SortStableFunc__Card_Q_CardOrder_, I_slices_SortStableFunc__Card_Q_CardOrder, li_slices_stableCmpFunc__Card_Q_CardOrder]
 exact sSta_is cmpK FineK (fun x y hx hy => Q_CardOrder_is hx hy) l hf hl (by have := NN_ok; omega) (by have := NN_ok; omega) _ (fun l a b R k => by rw [li_slices_insertionSortCmpFunc__Card_Q_CardOrder]) k
theorem compK_is {l : List G_Card} (hl : l.length ≤ 100000) (R : Type) (k : List G_Card → Option R) : slices_Compact__Card l k = k (compactP eq_G_Card l) := by
 rw [li_slices_Compact__Card]
 exact sComp_is eq_G_Card (fun _ => True) (fun x y _ _ R k => rfl) l (by have := NN_ok; omega) (by have := NN_ok; omega) (fun _ _ => trivial) k
theorem equalK_is {l : List G_Card} (hl : l.length ≤ 1000000) (R : Type) (k : Bool → Option R) : slices_Equal__Card l l k = k true := by
 rw [li_slices_Equal__Card]; exact sEqual_same (by have := NN_ok; omega) (by have := NN_ok; omega) (fun x => by rw [(eq_G_Card_is x x).2 rfl]; rfl) k
theorem Stream_Cards_loop (m : Nat) : ∀ (n i : Nat) (at0 : Int) (s : G_Stream) (out : List G_Card) (b : Int), m - i < n → i ≤ m → SOk (b + 20 * (i : Int)) s → b ≤ 1000000 → 0 ≤ at0 → at0 ≤ 20 * (i : Int) → out.length = i → (∀ c ∈ out, FineK c) → m ≤ 600 →
  ∃ (r : List G_Card) (s' : G_Stream), SOk (b + 20 * (m : Int)) s' ∧ r.length = m ∧ (∀ c ∈ r, FineK c) ∧ ∀ (R : Type) (e0 : G_Stream → List G_Card → Option R), Stream_Cards_L4 I_Stream_Cards n at0 (m : Int) (i : Int) s out e0 = e0 s' r
 | 0, i, _, _, _, _, h, _, _, _, _, _, _, _, _ => by omega
 | n + 1, i, at0, s, out, b, h, hi, hs, hb, h1, h2, ho, hf, hm6 => by
  by_cases hc : i < m
  ·obtain ⟨p, s1, hp, z1, e1⟩ := Stream_Pick_gives hs [0, 1, 5, 20] (by omega) (by simp) (by simp)
   obtain ⟨kd, s2, hkd, z2, e2⟩ := Stream_Pick_gives z1 [1, 2, 2, 2, 3] (by omega) (by simp) (by simp)
   obtain ⟨md, s3, hmd, z3, e3⟩ := Stream_Pick_gives z2 [1, 1, 2] (by omega) (by simp) (by simp)
   obtain ⟨cl, s4, hcl, z4, e4⟩ := Stream_ACall_gives z3 (by omega)
   obtain ⟨bd, s5, hbd, z5, e5⟩ := Stream_Some_gives z4 [[98, 50, 48], [98, 50, 48], [98, 52, 48]] (by omega) (by simp) (by simp)
   obtain ⟨f, s6, z6, e6⟩ := Stream_Flip_gives z5 100 (by omega) (by omega)
   simp only [List.mem_cons, List.not_mem_nil, or_false] at hp hkd hmd
   have ea : w64 (at0 + p) = at0 + p := w64_eq (by omega) (by omega)
   have hcard : ∃ (c : G_Card) (s' : G_Stream), FineK c ∧ SOk (b + 20 * ((i + 1 : Nat) : Int)) s' ∧ ∀ (R : Type) (e0 : G_Stream → List G_Card → Option R), Stream_Cards_L4 I_Stream_Cards (n + 1) at0 (m : Int) (i : Int) s out e0 = Stream_Cards_L4 I_Stream_Cards n (at0 + p) (m : Int) ((i + 1 : Nat) : Int) s' (out ++ [c]) e0 := by
    cases f with
    | false =>
     refine ⟨⟨at0 + p, kd, md, cl, bd⟩, s6, ⟨⟨by simp only; omega, by simp only; omega⟩, ⟨by simp only; omega, by simp only; omega⟩, ⟨by simp only; omega, by simp only; omega⟩, hcl, sub_mem hbd (by decide +kernel)⟩, z6.mono (by omega), fun R e0 => ?_⟩
     rw [Stream_Cards_L4]
     simp only [I_Stream_Cards, decide_eq_true (show (i : Int) < (m : Int) by omega), cond_true, e1, e2, e3, e4, e5, e6, ea, cond_false, room1 out _ 56 (show out.length ≤ 1000000 by omega) (by omega)]
     rw [w64_succ (by omega)]
    | true =>
     obtain ⟨x1, t1, x11, x12, y1, f1⟩ := Stream_Odd_gives z6 0 50 (by omega) (by omega) (by omega) (by omega) (by omega)
     obtain ⟨x2, t2, x21, x22, y2, f2⟩ := Stream_Odd_gives y1 1 3 (by omega) (by omega) (by omega) (by omega) (by omega)
     obtain ⟨x3, t3, x31, x32, y3, f3⟩ := Stream_Odd_gives y2 1 3 (by omega) (by omega) (by omega) (by omega) (by omega)
     obtain ⟨x4, t4, hx4, y4, f4⟩ := Stream_Some_gives y3 [[], [98, 50, 48]] (by omega) (by simp) (by simp)
     refine ⟨⟨x1, x2, x3, cl, x4⟩, t4, ⟨⟨by simp only; omega, by simp only; omega⟩, ⟨by simp only; omega, by simp only; omega⟩, ⟨by simp only; omega, by simp only; omega⟩, hcl, sub_mem hx4 (by decide +kernel)⟩, y4.mono (by omega), fun R e0 => ?_⟩
     rw [Stream_Cards_L4]
     simp only [I_Stream_Cards, decide_eq_true (show (i : Int) < (m : Int) by omega), cond_true, e1, e2, e3, e4, e5, e6, ea, f1, f2, f3, f4, room1 out _ 56 (show out.length ≤ 1000000 by omega) (by omega)]
     rw [w64_succ (by omega)]
   obtain ⟨c, s', hcf, zs, hstep⟩ := hcard
   obtain ⟨r, s'', g1, g2, g3, g4⟩ := Stream_Cards_loop m n (i + 1) (at0 + p) s' (out ++ [c]) b (by omega) (by omega) zs hb (by omega) (by omega) (by simp [ho]) (fun x hx => by
    rcases List.mem_append.1 hx with h | h
    ·exact hf x h
    ·simp at h; rw [h]; exact hcf) hm6
   exact ⟨r, s'', g1, g2, g3, fun R e0 => by rw [hstep, g4]⟩
  ·refine ⟨out, s, hs.mono (by omega), by omega, hf, fun R e0 => ?_⟩
   rw [Stream_Cards_L4, decide_eq_false (by omega)]; rfl
theorem Stream_Cards_gives {b : Int} {s : G_Stream} (hs : SOk b s) (hb : b ≤ 1000000) (m : Nat) (hm : m ≤ 20) :
  ∃ (r : List G_Card) (s' : G_Stream), SOk (b + 20 * (m : Int)) s' ∧ r.length ≤ m ∧ (∀ c ∈ r, FineK c) ∧ ∀ (R : Type) (k : List G_Card → G_Stream → Option R), Stream_Cards s (m : Int) k = k r s' := by
 obtain ⟨r, s', g1, g2, g3, g4⟩ := Stream_Cards_loop m NN 0 0 s [] b (by have := NN_ok; omega) (by omega) (hs.mono (by omega)) hb (by omega) (by omega) rfl (fun c h => by cases h) (by omega)
 have g4' : ∀ (R : Type) (e0 : G_Stream → List G_Card → Option R), Stream_Cards_L4 I_Stream_Cards I_Stream_Cards.N 0 (m : Int) 0 s [] e0 = e0 s' r := g4
 refine ⟨compactP eq_G_Card (sortI cmpK r), s', g1, ?_, fun c h => g3 c (sortI_mem.1 (compactP_sub h)), fun R k => ?_⟩
 ·have := compactP_len eq_G_Card (sortI cmpK r)
  have := sortI_length cmpK r
  omega
 ·simp only [Stream_Cards, Stream_Cards_, g4']
  simp only [I_Stream_Cards, sortK_ord g3 (show r.length ≤ 20 by omega), compK_is (show (sortI cmpK r).length ≤ 100000 by rw [sortI_length]; omega)]
noncomputable def chkK (c : G_Card) : Int := bif !momB c.f_At then 1 else bif !inB c.f_Kind 1 3 then 4 else bif !inB c.f_Mode 1 3 then 4 else bif !callB c.f_Call then 3 else bif !keyB c.f_Band then 5 else 0
noncomputable def faultKs : Option G_Card → List G_Card → Int
 | _, [] => 0
 | p, c :: cs => bif chkK c != 0 then chkK c else match p with
  | none => faultKs (some c) cs
  | some q => bif decide (cmpK q c ≥ 0) then 7 else faultKs (some c) cs
theorem club_CheckCards_loop (d : List G_Card) (hf : ∀ c ∈ d, FineK c) (hl : d.length ≤ 100000) : ∀ (xs : List G_Card) (n i : Nat) (p : Option G_Card), d.drop i = xs → PrevAt d i p → xs.length < n → ∀ (R : Type) (k : Int → Option R),
  club_CheckCards_L4 I_club_CheckCards n d d (d.length : Int) (i : Int) k (k 0) = k (faultKs p xs)
 | _, 0, _, _, _, _, h, _, _ => by omega
 | [], n + 1, i, p, h, _, _, _, _ => by rw [club_CheckCards_L4, ge_drop h]; rfl
 | c :: cs, n + 1, i, p, h, hp, hn, R, k => by
  have h' := drop_cons h
  have ih := club_CheckCards_loop d hf hl cs n (i + 1) (some c) h'.2.2.1 (prevAt_next h) (by simp at hn; omega) R k
  have hc := hf c (mem_drop h)
  rw [club_CheckCards_L4, lt_drop h]
  simp only [I_club_CheckCards] at ih
  simp only [cond_true, get_drop h, I_club_CheckCards, kit_IsMoment_is, kit_Outside_is, kit_IsMode_is, call_Is_is hc.call, kit_IsKey_is hc.band, club_compareCards_is, faultKs, chkK, w64_succ (show i < 4611686018427387904 by omega), ih]
  cases momB c.f_At <;> cases inB c.f_Kind 1 3 <;> cases inB c.f_Mode 1 3 <;> cases callB c.f_Call <;> cases keyB c.f_Band <;> try rfl
  cases p with
  | none => rw [decide_eq_false (show ¬ ((i : Int) > 0) by unfold PrevAt at hp; omega)]; rfl
  | some q =>
   obtain ⟨h0, ys, hq⟩ := hp
   rw [decide_eq_true (show ((i : Int) > 0) by omega), prev_drop hq h0 (by omega)]
   simp only [Bool.not_true, cond_false, cond_true, bne_self_eq_false]
   cases decide (cmpK q c ≥ 0) <;> rfl
theorem Q_CardsFault_loop (d : List G_Card) (hf : ∀ c ∈ d, FineK c) (hl : d.length ≤ 100000) : ∀ (xs : List G_Card) (n i : Nat) (p : Option G_Card), d.drop i = xs → PrevAt d i p → xs.length < n → ∀ (R : Type) (k : Int → Option R),
  Q_CardsFault_L4 I_Q_CardsFault n d d (d.length : Int) (i : Int) k (k 0) = k (faultKs p xs)
 | _, 0, _, _, _, _, h, _, _ => by omega
 | [], n + 1, i, p, h, _, _, _, _ => by rw [Q_CardsFault_L4, ge_drop h]; rfl
 | c :: cs, n + 1, i, p, h, hp, hn, R, k => by
  have h' := drop_cons h
  have ih := Q_CardsFault_loop d hf hl cs n (i + 1) (some c) h'.2.2.1 (prevAt_next h) (by simp at hn; omega) R k
  have hc := hf c (mem_drop h)
  rw [Q_CardsFault_L4, lt_drop h]
  simp only [I_Q_CardsFault] at ih
  cases p with
  | none =>
   simp only [cond_true, get_drop h, I_Q_CardsFault, Q_Moment_is, Q_in_is, Q_Call_is hc.call, Q_Key_is hc.band, faultKs, chkK, w64_succ (show i < 4611686018427387904 by omega), ih]
   rw [decide_eq_false (show ¬ ((i : Int) > 0) by unfold PrevAt at hp; omega)]
   cases momB c.f_At <;> cases inB c.f_Kind 1 3 <;> cases inB c.f_Mode 1 3 <;> cases callB c.f_Call <;> cases keyB c.f_Band <;> rfl
  | some q =>
   obtain ⟨h0, ys, hq⟩ := hp
   simp only [cond_true, get_drop h, I_Q_CardsFault, Q_Moment_is, Q_in_is, Q_Call_is hc.call, Q_Key_is hc.band, faultKs, chkK, w64_succ (show i < 4611686018427387904 by omega), ih, prev_drop hq h0 (show d.length < 4611686018427387904 by omega), Q_CardOrder_is (hf q (mem_drop hq)) hc]
   rw [decide_eq_true (show ((i : Int) > 0) by omega)]
   cases momB c.f_At <;> cases inB c.f_Kind 1 3 <;> cases inB c.f_Mode 1 3 <;> cases callB c.f_Call <;> cases keyB c.f_Band <;> cases decide (cmpK q c ≥ 0) <;> rfl
noncomputable def faultK (d : List G_Card) : Int := bif decide ((d.length : Int) > 3000) then 2 else faultKs none d
theorem club_CheckCards_is {d : List G_Card} (hf : ∀ c ∈ d, FineK c) (hl : d.length ≤ 100000) (R : Type) (k : Int → Option R) : club_CheckCards d k = k (faultK d) := by
 have h : club_CheckCards_L4 I_club_CheckCards I_club_CheckCards.N d d (d.length : Int) 0 k (k 0) = k (faultKs none d) := club_CheckCards_loop d hf hl d I_club_CheckCards.N 0 none rfl rfl (show d.length < NN by have := NN_ok; omega) R k
 simp only [club_CheckCards, club_CheckCards_, faultK, h]
 cases decide ((d.length : Int) > 3000) <;> rfl
theorem Q_CardsFault_is {d : List G_Card} (hf : ∀ c ∈ d, FineK c) (hl : d.length ≤ 100000) (R : Type) (k : Int → Option R) : Q_CardsFault d k = k (faultK d) := by
 have h : Q_CardsFault_L4 I_Q_CardsFault I_Q_CardsFault.N d d (d.length : Int) 0 k (k 0) = k (faultKs none d) := Q_CardsFault_loop d hf hl d I_Q_CardsFault.N 0 none rfl rfl (show d.length < NN by have := NN_ok; omega) R k
 simp only [Q_CardsFault, Q_CardsFault_, faultK, h]
 cases decide ((d.length : Int) > 3000) <;> rfl
theorem chkK_mode {c : G_Card} (h : chkK c = 0) : 1 ≤ c.f_Mode ∧ c.f_Mode ≤ 3 := by
 unfold chkK at h
 cases h1 : inB c.f_Mode 1 3 with
 | true => exact inB_is.1 h1
 | false => rw [h1] at h; revert h; cases momB c.f_At <;> cases inB c.f_Kind 1 3 <;> simp
theorem faultKs_chk : ∀ (l : List G_Card) (p : Option G_Card), faultKs p l = 0 → ∀ c ∈ l, chkK c = 0
 | [], _, _, c, h => by cases h
 | x :: xs, p, h, c, hc => by
  unfold faultKs at h
  cases hq : chkK x != 0 with
  | true => rw [hq] at h; simp only [cond_true] at h; rw [h] at hq; cases hq
  | false =>
   rw [hq] at h
   simp only [cond_false] at h
   have h0 : chkK x = 0 := by simpa using hq
   have h2 : faultKs (some x) xs = 0 := by
    cases p with
    | none => exact h
    | some q =>
     simp only at h
     cases hd : decide (cmpK q x ≥ 0) with
     | true => rw [hd] at h; simp only [cond_true] at h; omega
     | false => rw [hd] at h; exact h
   rcases List.mem_cons.1 hc with rfl | hc
   ·exact h0
   ·exact faultKs_chk xs (some x) h2 c hc
theorem faultK_chk {l : List G_Card} (h : faultK l = 0) : ∀ c ∈ l, chkK c = 0 := by
 unfold faultK at h
 cases hd : decide ((l.length : Int) > 3000) with
 | true => rw [hd] at h; simp only [cond_true] at h; omega
 | false => rw [hd] at h; exact faultKs_chk l none h
end Go.Am
set_option linter.unusedVariables false
set_option linter.unusedSectionVars false
set_option linter.unusedSimpArgs false
set_option maxRecDepth 100000
namespace Go.Am
open Go Go.Proofs
variable [Fuel]
end Go.Am
set_option linter.unusedVariables false
set_option linter.unusedSectionVars false
set_option linter.unusedSimpArgs false
set_option maxRecDepth 100000
namespace Go.Am
open Go Go.Proofs
variable [Fuel]
theorem cmp_ranked : Ords (fun x y : G_Place => orL [cmpI y.f_Points x.f_Points, Lib.compareBytes x.f_Key y.f_Key]) :=
 .lex (⟨fun x y => ords_cmpI.anti _ _, fun x y z h1 h2 => ords_cmpI.trans _ _ _ h2 h1⟩ : Ords fun x y : G_Place => cmpI y.f_Points x.f_Points) (.lex (ords_cb.on fun c : G_Place => c.f_Key) .nil)
theorem club_ranked_1_is (x y : G_Place) (R : Type) (k : Int → Option R) : club_ranked_1 x y k = k (orL [cmpI y.f_Points x.f_Points, Lib.compareBytes x.f_Key y.f_Key]) := by
 simp only [club_ranked_1, club_ranked_1_, I_club_ranked_1, cmp_Compare__int_is, strings_Compare_is]
 rw [cmp_Or__int_is _ (by simp)]
theorem sortf_place (x : G_Place) (R : Type) (k : List G_Place → Option R) : slices_SortFunc__Place_club_ranked_1 [x] k = k [x] := by
 have h : slices_SortFunc__Place_club_ranked_1 [x] k = k (sortI (fun x y : G_Place => orL [cmpI y.f_Points x.f_Points, Lib.compareBytes x.f_Key y.f_Key]) [x]) :=
  X_sortf_one cmp_ranked (by simp) (fun a ha b hb _ => by simp at ha hb; rw [ha, hb]) (fun x _ y _ => club_ranked_1_is x y) k
 rw [h]; rfl
theorem entrants_ok (R : Type) (k : Int → Option R) : club_CheckEntrants [(⟨[107, 49, 97, 98], [99], 5, []⟩ : G_Entrant)] k = k 0 := by
 obtain ⟨m, h, rfl⟩ := fuel_is ‹Fuel›
 kernel_rfl
theorem key_ok (R : Type) (k : Bool → Option R) : kit_IsKey [99] k = k true := by
 obtain ⟨m, h, rfl⟩ := fuel_is ‹Fuel›
 kernel_rfl
theorem ranked_one (x : G_Place) (R : Type) (k : List G_Place → Option R) : club_ranked [x] k = k [⟨1, x.f_Points, x.f_Key⟩] := by
 obtain ⟨m, e, hm⟩ := NN_succ
 obtain ⟨m, rfl⟩ : ∃ q, m = q + 1 := ⟨m - 1, by omega⟩
 simp only [club_ranked, club_ranked_]
 rw [show I_club_ranked.N = m + 1 + 1 from e]
 simp only [I_club_ranked, sortf_place]
 rfl
theorem table_one (R : Type) (k : List G_Place → Int → Option R) : club_Table [(⟨[107, 49, 97, 98], [99], 5, []⟩ : G_Entrant)] [99] k = k [⟨1, 5, [107, 49, 97, 98]⟩] 0 := by
 have h : ∀ e0 : List G_Place → Option R, club_Table_L8 I_club_Table I_club_Table.N [99] [(⟨[107, 49, 97, 98], [99], 5, []⟩ : G_Entrant)] (([(⟨[107, 49, 97, 98], [99], 5, []⟩ : G_Entrant)] : List G_Entrant).length : Int) 0 [] e0 = e0 [⟨0, 5, [107, 49, 97, 98]⟩] := fun e0 => by
  obtain ⟨m, e, hm⟩ := NN_succ
  obtain ⟨m, rfl⟩ : ∃ q, m = q + 1 := ⟨m - 1, by omega⟩
  rw [show I_club_Table.N = m + 1 + 1 from e]
  rfl
 simp only [I_club_Table] at h
 simp only [club_Table, club_Table_, I_club_Table, entrants_ok, key_ok, h, ranked_one]
 rfl
theorem law_joinedClub_is (R : Type) (k : Bool → Option R) : law_joinedClub k = k true := by
 simp only [law_joinedClub, law_joinedClub_, I_law_joinedClub, table_one]
 rfl
end Go.Am
