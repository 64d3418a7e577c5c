/- The plain law, in Lean alone: M5. No condition: lemmas for the claim. -/
import Derived.Test.YtonhhbcacemaiaaGreatDoorPlM4
set_option linter.unusedVariables false
set_option linter.unusedSectionVars false
set_option linter.unusedSimpArgs false
set_option maxRecDepth 100000
namespace Go.Am
open Go Go.Proofs
variable [Fuel]
def zM : G_Member := ⟨[], [], 0, []⟩
def lastM (day : Int) : List (List UInt8 × G_Member) → List G_Member → List (List UInt8 × G_Member)
 | m, [] => m
 | m, x :: xs => bif decide (x.f_Day ≤ day) then lastM day (aset keq_string x.f_Call x m) xs else lastM day m xs
def lineF (day : Int) (call : List UInt8) : G_Member → List G_Member → G_Member
 | a, [] => a
 | a, x :: xs => bif x.f_Call == call then (bif decide (x.f_Day ≤ day) then lineF day call x xs else lineF day call a xs) else lineF day call a xs
theorem line_last (day : Int) (call : List UInt8) : ∀ (l : List G_Member) (m : List (List UInt8 × G_Member)), (aget keq_string call (lastM day m l)).getD zM = lineF day call ((aget keq_string call m).getD zM) l
 | [], m => rfl
 | x :: xs, m => by
  unfold lastM lineF
  cases hd : decide (x.f_Day ≤ day) with
  | false =>
   simp only [cond_false]
   rw [line_last day call xs m]
   cases x.f_Call == call <;> rfl
  | true =>
   simp only [cond_true]
   rw [line_last day call xs, aget_aset keq_string_is]
   cases hc : x.f_Call == call with
   | true =>
    have e : call = x.f_Call := by
     have : x.f_Call = call := by simpa using hc
     exact this.symm
    rw [(keq_string_is call x.f_Call).2 e]; rfl
   | false =>
    have e : keq_string call x.f_Call = false := by
     cases hk : keq_string call x.f_Call with
     | false => rfl
     | true =>
      have := (keq_string_is _ _).1 hk
      rw [this, beq_self_eq_true] at hc; cases hc
    rw [e]; rfl
structure FineLast (l : List G_Member) (m : List (List UInt8 × G_Member)) : Prop where
 one : OneM m
 key : ∀ p ∈ m, p.2.f_Call = p.1
 mem : ∀ p ∈ m, p.2 ∈ l
theorem lastM_fine (day : Int) (l0 : List G_Member) : ∀ (l : List G_Member) (m : List (List UInt8 × G_Member)), (∀ x ∈ l, x ∈ l0) → FineLast l0 m → FineLast l0 (lastM day m l) ∧ (lastM day m l).length ≤ m.length + l.length
 | [], m, _, h => ⟨h, by simp [lastM]⟩
 | x :: xs, m, hl, h => by
  unfold lastM
  cases decide (x.f_Day ≤ day) with
  | false =>
   obtain ⟨h1, h2⟩ := lastM_fine day l0 xs m (fun y hy => hl y (by simp [hy])) h
   exact ⟨h1, by simp; omega⟩
  | true =>
   obtain ⟨h1, h2⟩ := lastM_fine day l0 xs (aset keq_string x.f_Call x m) (fun y hy => hl y (by simp [hy])) ⟨aset_one keq_string_is h.one _ _, fun p hp => by
    rcases aset_mem hp with rfl | hp
    ·rfl
    ·exact h.key p hp, fun p hp => by
    rcases aset_mem hp with rfl | hp
    ·exact hl _ (by simp)
    ·exact h.mem p hp⟩
   have := aset_len (eq := keq_string) x.f_Call x m
   exact ⟨h1, by simp; omega⟩
theorem club_last_loop (day : Int) (d : List G_Member) (hl : d.length ≤ 100000) : ∀ (xs : List G_Member) (n i : Nat) (m : List (List UInt8 × G_Member)), d.drop i = xs → xs.length < n → ∀ (R : Type) (e0 : List (List UInt8 × G_Member) → Option R),
  club_last_L3 NN n day d (d.length : Int) (i : Int) m e0 = e0 (lastM day m xs)
 | _, 0, _, _, _, h, _, _ => by omega
 | [], n + 1, i, m, h, _, R, e0 => by rw [club_last_L3, ge_drop h]; rfl
 | x :: xs, n + 1, i, m, h, hn, R, e0 => by
  have h' := drop_cons h
  have ih := fun m => club_last_loop day d hl xs n (i + 1) m h'.2.2.1 (by simp at hn; omega) R e0
  rw [club_last_L3, lt_drop h]
  simp only [cond_true, get_drop h, w64_succ (show i < 4611686018427387904 by omega), ih, lastM, lm_set_string_Member]
  cases decide (x.f_Day ≤ day) <;> rfl
theorem club_last_is {d : List G_Member} (hl : d.length ≤ 100000) (day : Int) (R : Type) (k : List (List UInt8 × G_Member) → Option R) : club_last d day k = k (lastM day [] d) := by
 have h : ∀ e0 : List (List UInt8 × G_Member) → Option R, club_last_L3 NN NN day d (d.length : Int) 0 [] e0 = e0 (lastM day [] d) := fun e0 => club_last_loop day d hl d NN 0 [] rfl (by have := NN_ok; omega) R e0
 simp only [club_last, club_last_, h]
noncomputable def clubF (c : List G_Club) (x : G_Member) : List UInt8 := bif !insB c x then [] else x.f_Club
theorem etaM (b : G_Member) : (⟨b.f_Call, b.f_Club, b.f_Day, b.f_Locator⟩ : G_Member) = b := rfl
theorem z88z_is {c : List G_Club} (hf : ∀ x ∈ c, FineU x) (hs : SortedU c) (hl : c.length ≤ 1000000) (m : List (List UInt8 × G_Member)) (base : List UInt8) (R : Type) (k : List UInt8 → List (List UInt8 × G_Member) → Option R) :
  z88z c m base k = k (clubF c ((aget keq_string base m).getD zM)) m := by
 simp only [z88z, z88z_, I_z88z, lm_get_string_Member, etaM, z9z_is hf hs hl]
 cases h : aget keq_string base m with
 | none =>
  simp only [Option.isSome_none, Bool.not_false, cond_true, Option.getD_none, clubF]
  cases !insB c zM <;> rfl
 | some x =>
  simp only [Option.isSome_some, Bool.not_true, cond_false, Option.getD_some, clubF]
  cases !insB c x <;> rfl
noncomputable def faultOut (c : List G_Club) (d : List G_Member) (day : Int) : Int := orL [faultM c d, bif inB day 0 4000 then 0 else 1]
theorem faultM_zero {c : List G_Club} {d : List G_Member} (h : faultM c d = 0) : faultU c = 0 ∧ faultMs c none d = 0 := by
 unfold faultM at h
 cases h1 : faultU c != 0 with
 | true => rw [h1, cond_true] at h; rw [h] at h1; cases h1
 | false =>
  rw [h1, cond_false] at h
  refine ⟨by simpa using h1, ?_⟩
  cases h2 : decide ((d.length : Int) > 1000) with
  | true => rw [h2] at h; cases h
  | false => rw [h2] at h; exact h
theorem callsL_len : ∀ s ∈ callsL, s.length ≤ 100 := by decide
theorem srtK9M_is (ks : List (List UInt8)) (hn : ks.Nodup) (hl : ∀ s ∈ ks, s.length ≤ 100000) (hc : ks.length ≤ 1000000) : srtK9 ks = some (sortI Lib.compareBytes ks) := by
 have e : ∀ l : List (List UInt8), List.map (fun x : List UInt8 => x) l = l := fun l => List.map_id' l
 have h := ordS_is (A := A) (k := 9) rfl ks (fun x => x) (fun x => x) (by show (List.map (fun x : List UInt8 => x) ks).Nodup; rw [e]; exact hn) (fun s hs => by
  have hs : s ∈ List.map (fun x : List UInt8 => x) ks := hs
  rw [e] at hs; exact hl s hs) hc
 refine h.trans ?_
 show some (List.map (fun x : List UInt8 => x) (sortI Lib.compareBytes (List.map (fun x : List UInt8 => x) ks))) = _
 rw [e, e]
noncomputable def predO (c : List G_Club) (x : G_Member) : Bool := bif !(x.f_Club == []) then !insB c x else false
theorem z48z_loop {c : List G_Club} (hc : ∀ x ∈ c, FineU x) (hs : SortedU c) (hcl : c.length ≤ 1000000) (m : List (List UInt8 × G_Member)) (d : List (List UInt8)) (hl : d.length ≤ 100000) : ∀ (xs : List (List UInt8)) (n i : Nat) (out : List (List UInt8)), d.drop i = xs → xs.length < n → out.length ≤ i → ∀ (R : Type) (e0 : List (List UInt8) → Option R),
  z48z_L9 I_z48z n c (d.length : Int) (i : Int) m d out e0 = e0 (out ++ xs.filter fun s => predO c ((aget keq_string s m).getD zM))
 | _, 0, _, _, _, h, _, _, _ => by omega
 | [], n + 1, i, out, h, _, _, R, e0 => by rw [z48z_L9, ge_drop h]; simp
 | x :: xs, n + 1, i, out, h, hn, ho, R, e0 => by
  have h' := drop_cons h
  have ih := fun o (ho : o.length ≤ i + 1) => z48z_loop hc hs hcl m d hl xs n (i + 1) o h'.2.2.1 (by simp at hn; omega) ho R e0
  have ih1 := ih (out ++ [x]) (by simp; omega)
  have ih2 := ih out (by omega)
  rw [z48z_L9, lt_drop h]
  simp only [I_z48z] at ih1 ih2
  simp only [cond_true, inr_drop h, at_drop h, I_z48z, lm_get_string_Member, etaM, z9z_is hc hs hcl, w64_succ (show i < 4611686018427387904 by omega), room1 out x 16 (show out.length ≤ 1000000 by omega) (by omega), ih1, ih2]
  show (bif !(((aget keq_string x m).getD zM).f_Club == []) then (bif !insB c ((aget keq_string x m).getD zM) then _ else _) else _) = _
  rw [List.filter_cons]
  unfold predO
  cases !(((aget keq_string x m).getD zM).f_Club == []) with
  | false => simp
  | true => cases !insB c ((aget keq_string x m).getD zM) <;> simp
def outQ (P : List UInt8 → Bool) : List (List UInt8) → List G_Member → List (List UInt8)
 | acc, [] => acc
 | acc, x :: xs => bif P x.f_Call then (bif !(acc.any fun y => y == x.f_Call) then outQ P (acc ++ [x.f_Call]) xs else outQ P acc xs) else outQ P acc xs
theorem containsS_is {l : List (List UInt8)} (hl : l.length ≤ 100000) (s : List UInt8) (R : Type) (k : Bool → Option R) : z58z l s k = k (l.any fun y => y == s) := by
 simp only [z58z, z58z_, I_z58z, li_z46z]
 rw [sIndexV_is _ s l (by have := NN_ok; omega) (by have := NN_ok; omega), idxI_ge]
 have e : (fun y : List UInt8 => s == y) = fun y => y == s := funext fun y => Bool.eq_iff_iff.2 ⟨fun h => beq_iff_eq.2 (beq_iff_eq.1 h).symm, fun h => beq_iff_eq.2 (beq_iff_eq.1 h).symm⟩
 rw [e]
theorem outQ_facts (P : List UInt8 → Bool) : ∀ (l : List G_Member) (acc : List (List UInt8)), acc.Nodup → acc.Pairwise (fun a b => Lib.compareBytes a b ≤ 0) → l.Pairwise (fun a b => Lib.compareBytes a.f_Call b.f_Call ≤ 0) → (∀ a ∈ acc, ∀ x ∈ l, Lib.compareBytes a x.f_Call ≤ 0) →
  (outQ P acc l).Nodup ∧ (outQ P acc l).Pairwise (fun a b => Lib.compareBytes a b ≤ 0) ∧ (∀ s, s ∈ outQ P acc l ↔ s ∈ acc ∨ ∃ x ∈ l, x.f_Call = s ∧ P s = true) ∧ (outQ P acc l).length ≤ acc.length + l.length
 | [], acc, h1, h2, _, _ => ⟨h1, h2, fun s => by simp [outQ], by simp [outQ]⟩
 | x :: xs, acc, h1, h2, h3, h4 => by
  obtain ⟨h5, h6⟩ := List.pairwise_cons.1 h3
  have skip := outQ_facts P xs acc h1 h2 h6 (fun a ha y hy => h4 a ha y (by simp [hy]))
  unfold outQ
  cases hP : P x.f_Call with
  | false =>
   obtain ⟨g1, g2, g3, g4⟩ := skip
   refine ⟨g1, g2, fun s => ?_, by simp only [cond_false, List.length_cons]; omega⟩
   simp only [cond_false]
   rw [g3]
   constructor
   ·rintro (h | ⟨y, hy, e, p⟩)
    ·exact .inl h
    ·exact .inr ⟨y, by simp [hy], e, p⟩
   ·rintro (h | ⟨y, hy, e, p⟩)
    ·exact .inl h
    ·rcases List.mem_cons.1 hy with rfl | hy
     ·rw [← e, hP] at p; cases p
     ·exact .inr ⟨y, hy, e, p⟩
  | true =>
   simp only [cond_true]
   cases hA : acc.any fun y => y == x.f_Call with
   | true =>
    obtain ⟨g1, g2, g3, g4⟩ := skip
    obtain ⟨y, hy, hyx⟩ := List.any_eq_true.1 hA
    have hyx : y = x.f_Call := by simpa using hyx
    refine ⟨g1, g2, fun s => ?_, by simp only [Bool.not_true, cond_false, List.length_cons]; omega⟩
    simp only [Bool.not_true, cond_false]
    rw [g3]
    constructor
    ·rintro (h | ⟨z, hz, e, p⟩)
     ·exact .inl h
     ·exact .inr ⟨z, by simp [hz], e, p⟩
    ·rintro (h | ⟨z, hz, e, p⟩)
     ·exact .inl h
     ·rcases List.mem_cons.1 hz with rfl | hz
      ·exact .inl (e ▸ hyx ▸ hy)
      ·exact .inr ⟨z, hz, e, p⟩
   | false =>
    have hnot : x.f_Call ∉ acc := fun hm => by
     have : acc.any (fun y => y == x.f_Call) = true := List.any_eq_true.2 ⟨_, hm, by simp⟩
     rw [hA] at this; cases this
    obtain ⟨g1, g2, g3, g4⟩ := outQ_facts P xs (acc ++ [x.f_Call]) (List.nodup_append.2 ⟨h1, by simp, fun a ha b hb e => by simp at hb; subst hb; subst e; exact hnot ha⟩)
     (List.pairwise_append.2 ⟨h2, by simp, fun a ha b hb => by simp at hb; rw [hb]; exact h4 a ha x (by simp)⟩) h6 (fun a ha y hy => by
      rcases List.mem_append.1 ha with h | h
      ·exact h4 a h y (by simp [hy])
      ·simp at h; rw [h]; exact h5 y hy)
    refine ⟨g1, g2, fun s => ?_, by simp only [Bool.not_false, cond_true, List.length_cons]; simp at g4; omega⟩
    simp only [Bool.not_false, cond_true]
    rw [g3]
    constructor
    ·rintro (h | ⟨z, hz, e, p⟩)
     ·rcases List.mem_append.1 h with h | h
      ·exact .inl h
      ·simp at h; exact .inr ⟨x, by simp, h.symm, h ▸ hP⟩
     ·exact .inr ⟨z, by simp [hz], e, p⟩
    ·rintro (h | ⟨z, hz, e, p⟩)
     ·exact .inl (by simp [h])
     ·rcases List.mem_cons.1 hz with rfl | hz
      ·exact .inl (by simp [e])
      ·exact .inr ⟨z, hz, e, p⟩
theorem faultMs_calls (c : List G_Club) : ∀ (l : List G_Member) (p : Option G_Member), faultMs c p l = 0 → (∀ q, p = some q → ∀ m ∈ l, Lib.compareBytes q.f_Call m.f_Call ≤ 0) ∧ l.Pairwise fun a b => Lib.compareBytes a.f_Call b.f_Call ≤ 0
 | [], _, _ => ⟨fun _ _ _ h => (by cases h), .nil⟩
 | x :: xs, p, h => by
  unfold faultMs at h
  cases hx : chkM c x != 0 with
  | true => rw [hx] at h; simp only [cond_true] at h; rw [h] at hx; cases hx
  | false =>
   rw [hx, cond_false] at h
   cases hw : lowM p x != 0 with
   | true => rw [hw] at h; simp only [cond_true] at h; rw [h] at hw; cases hw
   | false =>
    rw [hw, cond_false] at h
    obtain ⟨g1, g2⟩ := faultMs_calls c xs (some x) h
    refine ⟨fun q hq m hm => ?_, List.Pairwise.cons (fun m hm => g1 x rfl m hm) g2⟩
    subst hq
    have hd : Lib.compareBytes q.f_Call x.f_Call ≤ 0 := by
     have hlt : ¬ cmpM q x ≥ 0 := by
      simp only [lowM] at hw
      intro hc
      rw [decide_eq_true hc] at hw
      cases hw
     have hc : cmpM q x = bif Lib.compareBytes q.f_Call x.f_Call != 0 then Lib.compareBytes q.f_Call x.f_Call else orL [cmpI q.f_Day x.f_Day] := rfl
     by_cases h0 : Lib.compareBytes q.f_Call x.f_Call = 0
     ·omega
     ·have : (Lib.compareBytes q.f_Call x.f_Call != 0) = true := by simpa using h0
      rw [this, cond_true] at hc
      omega
    rcases List.mem_cons.1 hm with rfl | hm
    ·exact hd
    ·exact cb_trans _ _ _ hd (g1 x rfl m hm)
theorem aget_none {K V : Type} {eq : K → K → Bool} (h : ∀ x y, eq x y = true ↔ x = y) (s : K) : ∀ (m : List (K × V)), s ∉ m.map (·.1) → aget eq s m = none
 | [], _ => rfl
 | p :: ps, hn => by
  unfold aget
  simp only [List.map_cons, List.mem_cons, not_or] at hn
  have : eq s p.1 = false := by
   cases hk : eq s p.1 with
   | false => rfl
   | true => exact absurd ((h _ _).1 hk) hn.1
  rw [this]
  exact aget_none h s ps hn.2
theorem out_same (c : List G_Club) (day : Int) (l : List G_Member) (hp : l.Pairwise fun a b => Lib.compareBytes a.f_Call b.f_Call ≤ 0) :
  (sortI Lib.compareBytes ((lastM day [] l).map (·.1))).filter (fun s => predO c ((aget keq_string s (lastM day [] l)).getD zM)) = outQ (fun s => predO c (lineF day s zM l)) [] l := by
 obtain ⟨hfl, _⟩ := lastM_fine day l l [] (fun x h => h) ⟨.nil, fun p h => (by cases h), fun p h => (by cases h)⟩
 obtain ⟨q1, q2, q3, _⟩ := outQ_facts (fun s => predO c (lineF day s zM l)) l [] .nil .nil hp (fun a h => by cases h)
 have hll : ∀ s, (aget keq_string s (lastM day [] l)).getD zM = lineF day s zM l := fun s => line_last day s l []
 have hP : (fun s => predO c ((aget keq_string s (lastM day [] l)).getD zM)) = fun s => predO c (lineF day s zM l) := funext fun s => by rw [hll]
 rw [hP]
 have hn : ((sortI Lib.compareBytes ((lastM day [] l).map (·.1))).filter fun s => predO c (lineF day s zM l)).Nodup := (List.Sublist.nodup List.filter_sublist ((sortI_perm _ _).nodup_iff.2 hfl.one))
 refine sorted_one ords_cb (fun x _ y _ h => cb_eq_zero.1 h) ((List.perm_ext_iff_of_nodup hn q1).2 fun s => ?_) ((sortI_sorted (ords_cb.pre (fun _ => True)) _ (fun _ _ => trivial)).sublist List.filter_sublist) q2
 rw [List.mem_filter, sortI_mem, q3]
 constructor
 ·rintro ⟨h1, h2⟩
  obtain ⟨p, hpm, rfl⟩ := List.mem_map.1 h1
  exact .inr ⟨p.2, hfl.mem p hpm, hfl.key p hpm, h2⟩
 ·rintro (h | ⟨x, hx, e, h2⟩)
  ·cases h
  ·refine ⟨Classical.byContradiction fun hn => ?_, h2⟩
   have h3 := aget_none keq_string_is s _ hn
   have h4 := hll s
   rw [h3] at h4
   rw [← h4] at h2
   cases h2
theorem z48z_is {c : List G_Club} (hc : ∀ x ∈ c, FineU x) (hcl : c.length ≤ 100000) {d : List G_Member} (hf : ∀ m ∈ d, FineM m) (hl : d.length ≤ 1000) (day : Int) (R : Type) (k : List (List UInt8) → Int → Option R) :
  z48z c d day k = bif faultOut c d day != 0 then k [] (faultOut c d day) else k (outQ (fun s => predO c (lineF day s zM d)) [] d) 0 := by
 have hNN := NN_ok
 simp only [z48z, z48z_, I_z48z, z28z_is hc hcl hf (show d.length ≤ 100000 by omega), club_isDayM_is, club_last_is (show d.length ≤ 100000 by omega), faultOut, orL]
 cases h1 : faultM c d != 0 with
 | true => simp only [cond_true, h1]
 | false =>
  have z : faultM c d = 0 := by simpa using h1
  obtain ⟨zu, zm⟩ := faultM_zero z
  have hs := (faultU_sorted zu).1
  have hp := (faultMs_calls c d none zm).2
  simp only [cond_false]
  cases inB day 0 4000 with
  | false => rfl
  | true =>
   obtain ⟨hfl, hlen⟩ := lastM_fine day d d [] (fun x h => h) ⟨.nil, fun p h => (by cases h), fun p h => (by cases h)⟩
   simp only [List.length_nil] at hlen
   have hos := out_same c day d hp
   generalize hm : lastM day [] d = m at hfl hlen hos
   have hkl : ∀ s ∈ m.map (·.1), s.length ≤ 100000 := fun s hs' => by
    obtain ⟨p, hpm, rfl⟩ := List.mem_map.1 hs'
    have h2 := (hf _ (hfl.mem p hpm)).call
    rw [hfl.key p hpm] at h2
    exact Nat.le_trans (callsL_len _ h2) (by omega)
   have hk : srtK9 (List.map (fun p => p.1) m) = some (sortI Lib.compareBytes (m.map (·.1))) := srtK9M_is (m.map (·.1)) hfl.one hkl (by rw [List.length_map]; omega)
   have hlk : (sortI Lib.compareBytes (m.map (·.1))).length ≤ 100000 := by rw [sortI_length, List.length_map]; omega
   have e9 : ∀ e0 : List (List UInt8) → Option R, z48z_L9 I_z48z NN c ((sortI Lib.compareBytes (m.map (·.1))).length : Int) 0 m (sortI Lib.compareBytes (m.map (·.1))) [] e0 = e0 ((sortI Lib.compareBytes (m.map (·.1))).filter fun s => predO c ((aget keq_string s m).getD zM)) := fun e0 => by
    have h := z48z_loop hc hs (by omega) m (sortI Lib.compareBytes (m.map (·.1))) hlk _ NN 0 [] rfl (by rw [List.drop_zero]; omega) (by simp) R e0
    rw [List.drop_zero, List.nil_append] at h
    exact h
   simp only [I_z48z] at e9
   simp only [Bool.not_true, cond_false, hk, keys_, e9, hos]
   rfl
end Go.Am
