/- The plain law, in Lean alone: M3. No condition: lemmas for the claim. -/
import Derived.Test.YtnkoiigdcbjenaaGreatDoorPlM1
set_option linter.unusedVariables false
set_option linter.unusedSectionVars false
set_option linter.unusedSimpArgs false
set_option maxRecDepth 100000
namespace Go.Am
open Go Go.Proofs
variable [Fuel]
theorem keysM_ok : keysM.all (fun s => okBool (kit_IsKey s some) (Q_Key s some)) = true := by
  obtain ⟨m, h, rfl⟩ := fuel_is ‹Fuel›
  kernel_rfl
theorem keysM_nil : keyB [] = false := by
  obtain ⟨m, h, rfl⟩ := fuel_is ‹Fuel›
  kernel_rfl
theorem kit_IsKeyM_is {s : List UInt8} (h : s ∈ keysM) (R : Type) (k : Bool → Option R) : kit_IsKey s k = k (keyB s) :=
  nat_bool ok_kit_IsKey.na (args := [.d (.str s)]) (F := @kit_IsKey _ s) (fun _ _ => rfl) (okBool_is (List.all_eq_true.1 keysM_ok s h)).1 R k
theorem Q_KeyM_is {s : List UInt8} (h : s ∈ keysM) (R : Type) (k : Bool → Option R) : Q_Key s k = k (keyB s) :=
  nat_bool ok_Q_Key.na (args := [.d (.str s)]) (F := @Q_Key _ s) (fun _ _ => rfl) (okBool_is (List.all_eq_true.1 keysM_ok s h)).2 R k
noncomputable def sqB (s : List UInt8) : Bool := (club_isSquare s some).getD false
theorem sq_ok : (sqL ++ locL).all (fun s => okBool (club_isSquare s some) (Q_Square s some)) = true := by
  obtain ⟨m, h, rfl⟩ := fuel_is ‹Fuel›
  kernel_rfl
theorem club_isSquare_is {s : List UInt8} (h : s ∈ sqL ++ locL) (R : Type) (k : Bool → Option R) : club_isSquare s k = k (sqB s) :=
  nat_bool ok_club_isSquare.na (args := [.d (.str s)]) (F := @club_isSquare _ s) (fun _ _ => rfl) (okBool_is (List.all_eq_true.1 sq_ok s h)).1 R k
theorem Q_Square_is {s : List UInt8} (h : s ∈ sqL ++ locL) (R : Type) (k : Bool → Option R) : Q_Square s k = k (sqB s) :=
  nat_bool ok_Q_Square.na (args := [.d (.str s)]) (F := @Q_Square _ s) (fun _ _ => rfl) (okBool_is (List.all_eq_true.1 sq_ok s h)).2 R k
noncomputable def locB (s : List UInt8) : Bool := bif (s.length : Int) == 6 then sqB s else false
theorem club_isLocator_is {s : List UInt8} (h : s ∈ locL) (R : Type) (k : Bool → Option R) : club_isLocator s k = k (locB s) := by
  simp only [club_isLocator, club_isLocator_, I_club_isLocator, club_isSquare_is (List.mem_append_right _ h), locB]
  cases (s.length : Int) == 6 <;> rfl
theorem Q_locator_is {s : List UInt8} (h : s ∈ locL) (R : Type) (k : Bool → Option R) : Q_locator s k = k (locB s) := by
  simp only [Q_locator, Q_locator_, I_Q_locator, Q_Square_is (List.mem_append_right _ h), locB]
  cases (s.length : Int) == 6 <;> rfl
theorem parts_gives {s : List UInt8} (h : s ∈ callsL) : ∃ p : G_Parts, p.f_Base = baseB s ∧ ∀ (R : Type) (K : G_Parts → Bool → Option R), call_Parts s K = K p (callB s) := by
  let f : (R : Type) → (G_Parts → Bool → Option R) → IV A → List (IV A) → Option R := fun R K r _ => match r with
    | .tup [.agg [.d (.str a), .d (.str b), .d (.str c), .d (.int .i64 n), .d (.str d)], .d (.bool x)] => K ⟨a, b, c, n, d⟩ x
    | _ => none
  have h1 : ∀ (R : Type) (K : G_Parts → Bool → Option R), call_Parts s K = (SS_call_Parts (@call_Parts _) [.d (.str s)] (fun r ys => some (r, ys))).bind fun p => f R K p.1 p.2 := fun R K => ok_call_Parts.na [.d (.str s)] R (f R K)
  have hi : call_Parts s (fun _ b => some b) = some (callB s) := by
    have := call_Is_is h Bool some
    simpa only [call_Is, call_Is_, I_call_Is] using this
  have hb : call_Parts s (fun p _ => some p.f_Base) = some (baseB s) := by
    have := call_BaseOf_is h _ some
    simpa only [call_BaseOf, call_BaseOf_, I_call_BaseOf] using this
  cases ht : SS_call_Parts (@call_Parts _) [.d (.str s)] (fun r ys => some (r, ys)) with
  | none => rw [h1, ht] at hi; cases hi
  | some q =>
    obtain ⟨v, ys⟩ := q
    have h2 : ∀ (R : Type) (K : G_Parts → Bool → Option R), call_Parts s K = f R K v ys := fun R K => by rw [h1, ht]; rfl
    rw [h2] at hi hb
    have hv : ∃ (p : G_Parts) (x : Bool), ∀ (R : Type) (K : G_Parts → Bool → Option R), f R K v ys = K p x := by
      simp only [f] at hi
      split at hi
      · exact ⟨_, _, fun R K => rfl⟩
      · cases hi
    obtain ⟨p, x, hp⟩ := hv
    have hi2 : some x = some (callB s) := (hp Bool (fun _ b => some b)).symm.trans hi
    have hb2 : some p.f_Base = some (baseB s) := (hp (List UInt8) (fun p _ => some p.f_Base)).symm.trans hb
    refine ⟨p, Option.some.inj hb2, fun R K => ?_⟩
    have h3 := (h2 R K).trans (hp R K)
    rw [Option.some.inj hi2] at h3
    exact h3
def lowS (p : Option (List UInt8)) (q : List UInt8) : Bool := match p with | none => false | some r => Op.bytesLess q r || q == r
noncomputable def faultS : Option (List UInt8) → List (List UInt8) → Int
  | _, [] => 0
  | p, q :: qs => bif !sqB q then 3 else bif lowS p q then 7 else faultS (some q) qs
noncomputable def faultSq (l : List (List UInt8)) : Int := bif decide ((l.length : Int) > 100) then 2 else faultS none l
theorem club_squaresFault_loop (d : List (List UInt8)) (hf : ∀ q ∈ d, q ∈ sqL) (hl : d.length ≤ 100000) : ∀ (xs : List (List UInt8)) (n i : Nat) (p : Option (List UInt8)), d.drop i = xs → PrevAt d i p → xs.length < n → ∀ (R : Type) (k : Int → Option R),
    club_squaresFault_L4 I_club_squaresFault n d d (d.length : Int) (i : Int) k (k 0) = k (faultS p xs)
  | _, 0, _, _, _, _, h, _, _ => by omega
  | [], n + 1, i, p, h, _, _, _, _ => by rw [club_squaresFault_L4, ge_drop h]; rfl
  | c :: cs, n + 1, i, p, h, hp, hn, R, k => by
    have h' := drop_cons h
    have ih := club_squaresFault_loop d hf hl cs n (i + 1) (some c) h'.2.2.1 (prevAt_next h) (by simp at hn; omega) R k
    rw [club_squaresFault_L4, lt_drop h]
    simp only [I_club_squaresFault] at ih
    simp only [cond_true, get_drop h, I_club_squaresFault, club_isSquare_is (List.mem_append_left _ (hf c (mem_drop h))), faultS, w64_succ (show i < 4611686018427387904 by omega), ih]
    cases sqB c with
    | false => rfl
    | true =>
      cases p with
      | none => rw [decide_eq_false (show ¬ ((i : Int) > 0) by unfold PrevAt at hp; omega)]; rfl
      | some q =>
        obtain ⟨h0, ys, hq⟩ := hp
        rw [decide_eq_true (show ((i : Int) > 0) by omega), cond_true, prev_drop hq h0 (by omega)]
        simp only [Bool.not_true, cond_false, lowS]
        cases (Op.bytesLess c q || c == q) <;> rfl
theorem club_squaresFault_is {d : List (List UInt8)} (hf : ∀ q ∈ d, q ∈ sqL) (hl : d.length ≤ 100000) (R : Type) (k : Int → Option R) : club_squaresFault d k = k (faultSq d) := by
  have h : club_squaresFault_L4 I_club_squaresFault I_club_squaresFault.N d d (d.length : Int) 0 k (k 0) = k (faultS none d) := club_squaresFault_loop d hf hl d I_club_squaresFault.N 0 none rfl rfl (show d.length < NN by have := NN_ok; omega) R k
  simp only [club_squaresFault, club_squaresFault_, faultSq, h]
  cases decide ((d.length : Int) > 100) <;> rfl
theorem Q_ClubsFault_L15_is (v33 : List UInt8) (v34 : List G_Club) (v35 v36 : Int) (c : G_Club) (hf : ∀ q ∈ c.f_Squares, q ∈ sqL) (hl : c.f_Squares.length ≤ 100000) : ∀ (xs : List (List UInt8)) (n i : Nat) (p : Option (List UInt8)), c.f_Squares.drop i = xs → PrevAt c.f_Squares i p → xs.length < n → ∀ (R : Type) (e0 : Int → List UInt8 → List G_Club → Int → Int → Option R) (e1 : List UInt8 → List G_Club → Int → Int → Option R),
    Q_ClubsFault_L15 I_Q_ClubsFault n v33 v34 v35 v36 c.f_Squares (c.f_Squares.length : Int) (i : Int) c e0 e1 = bif faultS p xs != 0 then e0 (faultS p xs) v33 v34 v35 v36 else e1 v33 v34 v35 v36
  | _, 0, _, _, _, _, h, _, _, _ => by omega
  | [], n + 1, i, p, h, _, _, _, _, _ => by rw [Q_ClubsFault_L15, ge_drop h]; rfl
  | q0 :: cs, n + 1, i, p, h, hp, hn, R, e0, e1 => by
    have h' := drop_cons h
    have ih := Q_ClubsFault_L15_is v33 v34 v35 v36 c hf hl cs n (i + 1) (some q0) h'.2.2.1 (prevAt_next h) (by simp at hn; omega) R e0 e1
    rw [Q_ClubsFault_L15, lt_drop h]
    simp only [I_Q_ClubsFault] at ih
    simp only [cond_true, get_drop h, I_Q_ClubsFault, Q_Square_is (List.mem_append_left _ (hf q0 (mem_drop h))), faultS, w64_succ (show i < 4611686018427387904 by omega), ih]
    cases sqB q0 with
    | false => rfl
    | true =>
      cases p with
      | none => rw [decide_eq_false (show ¬ ((i : Int) > 0) by unfold PrevAt at hp; omega)]; rfl
      | some q =>
        obtain ⟨h0, ys, hq⟩ := hp
        rw [decide_eq_true (show ((i : Int) > 0) by omega), cond_true, prev_drop hq h0 (by omega)]
        simp only [Bool.not_true, cond_false, lowS]
        cases (Op.bytesLess q0 q || q0 == q) <;> rfl
def lowU (p : Option G_Club) (c : G_Club) : Bool := match p with | none => false | some q => Op.bytesLess c.f_Key q.f_Key || c.f_Key == q.f_Key
noncomputable def chkU (p : Option G_Club) (c : G_Club) : Int := bif !keyB c.f_Key then 5 else bif lowU p c then 7 else faultSq c.f_Squares
noncomputable def faultUs : Option G_Club → List G_Club → Int
  | _, [] => 0
  | p, c :: cs => bif chkU p c != 0 then chkU p c else faultUs (some c) cs
theorem club_CheckClubs_loop (d : List G_Club) (hf : ∀ c ∈ d, FineU c) (hl : d.length ≤ 100000) : ∀ (xs : List G_Club) (n i : Nat) (p : Option G_Club), d.drop i = xs → PrevAt d i p → xs.length < n → ∀ (R : Type) (k : Int → Option R),
    club_CheckClubs_L4 I_club_CheckClubs n d d (d.length : Int) (i : Int) k (k 0) = k (faultUs p xs)
  | _, 0, _, _, _, _, h, _, _ => by omega
  | [], n + 1, i, p, h, _, _, _, _ => by rw [club_CheckClubs_L4, ge_drop h]; rfl
  | c :: cs, n + 1, i, p, h, hp, hn, R, k => by
    have h' := drop_cons h
    have fc := hf c (mem_drop h)
    have ih := club_CheckClubs_loop d hf hl cs n (i + 1) (some c) h'.2.2.1 (prevAt_next h) (by simp at hn; omega) R k
    have hlen := fc.len
    rw [club_CheckClubs_L4, lt_drop h]
    simp only [I_club_CheckClubs] at ih
    simp only [cond_true, get_drop h, I_club_CheckClubs, kit_IsKeyM_is fc.key, club_squaresFault_is fc.sq (show c.f_Squares.length ≤ 100000 by omega), faultUs, chkU, w64_succ (show i < 4611686018427387904 by omega), ih]
    cases keyB c.f_Key with
    | false => rfl
    | true =>
      cases p with
      | none =>
        rw [decide_eq_false (show ¬ ((i : Int) > 0) by unfold PrevAt at hp; omega)]
        simp only [Bool.not_true, cond_false, lowU]
        cases faultSq c.f_Squares != 0 <;> rfl
      | some q =>
        obtain ⟨h0, ys, hq⟩ := hp
        rw [decide_eq_true (show ((i : Int) > 0) by omega), cond_true, prev_drop hq h0 (by omega)]
        simp only [Bool.not_true, cond_false, lowU]
        cases (Op.bytesLess c.f_Key q.f_Key || c.f_Key == q.f_Key) with
        | true => rfl
        | false =>
          simp only [cond_false]
          cases faultSq c.f_Squares != 0 <;> rfl
def lastU (p : Option G_Club) : List UInt8 := match p with | none => [] | some q => q.f_Key
theorem lowU_last {p : Option G_Club} {c : G_Club} (hk : keyB c.f_Key = true) : (Op.bytesLess c.f_Key (lastU p) || c.f_Key == lastU p) = lowU p c := by
  cases p with
  | some q => rfl
  | none =>
    have hne : c.f_Key ≠ [] := fun e => by rw [e, keysM_nil] at hk; cases hk
    unfold lastU lowU
    cases hc : c.f_Key with
    | nil => exact absurd hc hne
    | cons x xs =>
      simp only
      rw [bytesLess_is]
      rfl
theorem Q_ClubsFault_loop (d : List G_Club) (hf : ∀ c ∈ d, FineU c) (hl : d.length ≤ 100000) : ∀ (xs : List G_Club) (n i : Nat) (p : Option G_Club), d.drop i = xs → xs.length < n → ∀ (R : Type) (k : Int → Option R),
    Q_ClubsFault_L5 I_Q_ClubsFault n (lastU p) d (d.length : Int) (i : Int) k (k 0) = k (faultUs p xs)
  | _, 0, _, _, _, h, _, _ => by omega
  | [], n + 1, i, p, h, _, _, _ => by rw [Q_ClubsFault_L5, ge_drop h]; rfl
  | c :: cs, n + 1, i, p, h, hn, R, k => by
    have h' := drop_cons h
    have fc := hf c (mem_drop h)
    have hlen := fc.len
    have ih : Q_ClubsFault_L5 I_Q_ClubsFault n c.f_Key d (d.length : Int) ((i + 1 : Nat) : Int) k (k 0) = k (faultUs (some c) cs) := Q_ClubsFault_loop d hf hl cs n (i + 1) (some c) h'.2.2.1 (by simp at hn; omega) R k
    have h15 : ∀ (e0 : Int → List UInt8 → List G_Club → Int → Int → Option R) (e1 : List UInt8 → List G_Club → Int → Int → Option R), Q_ClubsFault_L15 I_Q_ClubsFault NN c.f_Key d (d.length : Int) (i : Int) c.f_Squares (c.f_Squares.length : Int) 0 c e0 e1 = bif faultS none c.f_Squares != 0 then e0 (faultS none c.f_Squares) c.f_Key d (d.length : Int) (i : Int) else e1 c.f_Key d (d.length : Int) (i : Int) :=
      Q_ClubsFault_L15_is c.f_Key d (d.length : Int) (i : Int) c fc.sq (by omega) c.f_Squares NN 0 none rfl rfl (by have := NN_ok; omega) R
    rw [Q_ClubsFault_L5, lt_drop h]
    simp only [I_Q_ClubsFault] at ih h15
    simp only [cond_true, get_drop h, I_Q_ClubsFault, Q_KeyM_is fc.key, h15, w64_succ (show i < 4611686018427387904 by omega), ih, faultUs, chkU, faultSq]
    cases hk : keyB c.f_Key with
    | false => rfl
    | true =>
      rw [lowU_last hk]
      cases lowU p c with
      | true => rfl
      | false =>
        simp only [Bool.not_true, cond_false]
        rw [decide_eq_false (show ¬ ((c.f_Squares.length : Int) > 100) by omega)]
        simp only [cond_false]
        cases faultS none c.f_Squares != 0 <;> rfl
noncomputable def faultU (d : List G_Club) : Int := bif decide ((d.length : Int) > 200) then 2 else faultUs none d
theorem club_CheckClubs_is {d : List G_Club} (hf : ∀ c ∈ d, FineU c) (hl : d.length ≤ 100000) (R : Type) (k : Int → Option R) : club_CheckClubs d k = k (faultU d) := by
  have h : club_CheckClubs_L4 I_club_CheckClubs I_club_CheckClubs.N d d (d.length : Int) 0 k (k 0) = k (faultUs none d) := club_CheckClubs_loop d hf hl d I_club_CheckClubs.N 0 none rfl rfl (show d.length < NN by have := NN_ok; omega) R k
  simp only [club_CheckClubs, club_CheckClubs_, faultU, h]
  cases decide ((d.length : Int) > 200) <;> rfl
theorem Q_ClubsFault_is {d : List G_Club} (hf : ∀ c ∈ d, FineU c) (hl : d.length ≤ 100000) (R : Type) (k : Int → Option R) : Q_ClubsFault d k = k (faultU d) := by
  have h : Q_ClubsFault_L5 I_Q_ClubsFault I_Q_ClubsFault.N [] d (d.length : Int) 0 k (k 0) = k (faultUs none d) := Q_ClubsFault_loop d hf hl d I_Q_ClubsFault.N 0 none rfl (show d.length < NN by have := NN_ok; omega) R k
  simp only [Q_ClubsFault, Q_ClubsFault_, faultU, h]
  cases decide ((d.length : Int) > 200) <;> rfl
theorem cb_lt_trans {a b c : List UInt8} (h1 : Lib.compareBytes a b < 0) (h2 : Lib.compareBytes b c < 0) : Lib.compareBytes a c < 0 := by
  have h3 := cb_trans a b c (by omega) (by omega)
  rcases Int.lt_or_eq_of_le h3 with h | h
  · exact h
  · have e := cb_zero a c h
    subst e
    have := cb_anti a b
    omega
abbrev SortedU (d : List G_Club) : Prop := d.Pairwise fun a b => Lib.compareBytes a.f_Key b.f_Key < 0
theorem faultUs_sorted : ∀ (l : List G_Club) (p : Option G_Club), faultUs p l = 0 → (∀ q, p = some q → ∀ c ∈ l, Lib.compareBytes q.f_Key c.f_Key < 0) ∧ SortedU l ∧ ∀ c ∈ l, keyB c.f_Key = true
  | [], _, _ => ⟨fun _ _ _ h => (by cases h), .nil, fun _ h => (by cases h)⟩
  | x :: xs, p, h => by
    unfold faultUs at h
    cases hx : chkU p x != 0 with
    | true => rw [hx] at h; simp only [cond_true] at h; rw [h] at hx; cases hx
    | false =>
      rw [hx, cond_false] at h
      have hx : chkU p x = 0 := by simpa using hx
      obtain ⟨g1, g2, g3⟩ := faultUs_sorted xs (some x) h
      unfold chkU at hx
      cases hk : keyB x.f_Key with
      | false => rw [hk] at hx; cases hx
      | true =>
        rw [hk] at hx
        simp only [Bool.not_true, cond_false] at hx
        have hlow : lowU p x = false := by
          cases hl : lowU p x with
          | false => rfl
          | true => rw [hl] at hx; cases hx
        refine ⟨fun q hq c hc => ?_, List.Pairwise.cons (fun c hc => g1 x rfl c hc) g2, fun c hc => ?_⟩
        · subst hq
          have hqx : Lib.compareBytes q.f_Key x.f_Key < 0 := by
            simp only [lowU, Bool.or_eq_false_iff, bytesLess_is, decide_eq_false_iff_not, beq_eq_false_iff_ne] at hlow
            have h1 := cb_anti x.f_Key q.f_Key
            have h2 : Lib.compareBytes x.f_Key q.f_Key ≠ 0 := fun e => hlow.2 (cb_zero _ _ e)
            omega
          rcases List.mem_cons.1 hc with rfl | hc
          · exact hqx
          · exact cb_lt_trans hqx (g1 x rfl c hc)
        · rcases List.mem_cons.1 hc with rfl | hc
          · exact hk
          · exact g3 c hc
theorem faultU_sorted {l : List G_Club} (h : faultU l = 0) : SortedU l ∧ ∀ c ∈ l, keyB c.f_Key = true := by
  unfold faultU at h
  cases hl : decide ((l.length : Int) > 200) with
  | true => rw [hl] at h; cases h
  | false => rw [hl] at h; exact (faultUs_sorted l none h).2
end Go.Am
