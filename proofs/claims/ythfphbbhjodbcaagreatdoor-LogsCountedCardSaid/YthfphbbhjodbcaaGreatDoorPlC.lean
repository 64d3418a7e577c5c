/- The plain law, in Lean alone: Pl6, Pl7. No condition: lemmas for the claim. -/
import Derived.Test.YthfphbbhjodbcaaGreatDoorPlB
set_option linter.unusedVariables false
set_option linter.unusedSimpArgs false
set_option maxRecDepth 100000
namespace Go.Am
open Go Go.Proofs
theorem eq92 (w x : G_worked) : eqDs (T.enc 92 w) (T.enc 92 x) = true ↔ w = x := by
  have h : eqDs (T.enc 92 w) (T.enc 92 x) = ((w.f_base == x.f_base) && ((w.f_band == x.f_band) && ((w.f_mode == x.f_mode) && true))) := by kernel_rfl
  rw [h]
  cases w; cases x
  simp
theorem get_set (w x : G_worked) (y : Bool) : ∀ m : List (G_worked × Bool), mget_92_4 w (mset_92_4 x y m) = bif eqDs (T.enc 92 w) (T.enc 92 x) then some y else mget_92_4 w m
  | [] => by
    show getM T 92 4 w (setM T 92 4 x y []) = _
    simp only [setM, getM]
    rfl
  | p :: ps => by
    have ih := get_set w x y ps
    have ih' : getM T 92 4 w (setM T 92 4 x y ps) = bif eqDs (T.enc 92 w) (T.enc 92 x) then some y else getM T 92 4 w ps := ih
    show getM T 92 4 w (setM T 92 4 x y (p :: ps)) = bif eqDs (T.enc 92 w) (T.enc 92 x) then some y else getM T 92 4 w (p :: ps)
    simp only [setM]
    cases h1 : eqDs (T.enc 92 x) (T.enc 92 p.1) with
    | true =>
      simp only [cond_true, getM]
      cases h2 : eqDs (T.enc 92 w) (T.enc 92 x) with
      | true => rfl
      | false =>
        have e1 : x = p.1 := (eq92 x p.1).1 h1
        have h3 : eqDs (T.enc 92 w) (T.enc 92 p.1) = false := by
          have : eqDs (T.enc 92 w) (T.enc 92 x) = eqDs (T.enc 92 w) (T.enc 92 p.1) := congrArg (fun z : G_worked => eqDs (T.enc 92 w) (T.enc 92 z)) e1
          rw [← this]; exact h2
        simp only [h3]
        rfl
    | false =>
      simp only [cond_false, getM]
      cases h3 : eqDs (T.enc 92 w) (T.enc 92 p.1) with
      | true =>
        have e1 : w = p.1 := (eq92 w p.1).1 h3
        have h2 : eqDs (T.enc 92 w) (T.enc 92 x) = false := by
          cases h4 : eqDs (T.enc 92 w) (T.enc 92 x) with
          | false => rfl
          | true =>
            have e2 : w = x := (eq92 w x).1 h4
            have : eqDs (T.enc 92 x) (T.enc 92 p.1) = true := (eq92 x p.1).2 (e2.symm.trans e1)
            rw [h1] at this; cases this
        simp only [cond_true, h2]
        rfl
      | false => simp only [cond_false]; exact ih'
def keyC (c : G_Contact) : G_worked := ⟨baseB c.f_Call, c.f_Band, c.f_Mode⟩
def sameC (o c : G_Contact) : Bool := bif o.f_Band == c.f_Band then bif o.f_Mode == c.f_Mode then baseB o.f_Call == baseB c.f_Call else false else false
theorem same_key (o c : G_Contact) : sameC o c = true ↔ keyC o = keyC c := by
  unfold sameC keyC
  by_cases h1 : o.f_Band = c.f_Band
  · by_cases h2 : o.f_Mode = c.f_Mode
    · simp [h1, h2]
    · have : (o.f_Mode == c.f_Mode) = false := by simpa using h2
      simp [h1, h2, this]
  · have : (o.f_Band == c.f_Band) = false := by simpa using h1
    simp [h1, this]
theorem F49_is {o c : G_Contact} (ho : Fine o) (hc : Fine c) (R : Type) (k : Bool → Int → Int → List UInt8 → List UInt8 → Int → Int → List UInt8 → List UInt8 → Option R) :
    F49 NN o.f_At o.f_Mode o.f_Band o.f_Call o.f_Sent o.f_Heard o.f_Gave o.f_Got c.f_At c.f_Mode c.f_Band c.f_Call c.f_Sent c.f_Heard c.f_Gave c.f_Got k = k (sameC o c) c.f_At c.f_Mode c.f_Band c.f_Call c.f_Sent c.f_Heard c.f_Gave c.f_Got := by
  unfold F49 F49_ sameC
  simp only [fun R k => (base_is ho.call R k).2, fun R k => (base_is hc.call R k).2]
  cases o.f_Band == c.f_Band <;> cases o.f_Mode == c.f_Mode <;> rfl
theorem find_loop (l : List G_Contact) (hf : ∀ c ∈ l, Fine c) (c : G_Contact) (hc : Fine c) (hl : l.length ≤ 1000) : ∀ (n i : Nat), l.length - i < n → i ≤ l.length →
    (∃ j : Nat, (∃ o ∈ l, sameC o c = true) ∧ ∀ (R : Type) (e0 : Int → Int → Int → List UInt8 → List UInt8 → Int → Int → List UInt8 → List UInt8 → Option R) (e1 : Int → Int → List UInt8 → List UInt8 → Int → Int → List UInt8 → List UInt8 → Option R),
      L76_2 (@F49 NN) NN n l (l.length : Int) (i : Int) c.f_At c.f_Mode c.f_Band c.f_Call c.f_Sent c.f_Heard c.f_Gave c.f_Got e0 e1 = e0 (j : Int) c.f_At c.f_Mode c.f_Band c.f_Call c.f_Sent c.f_Heard c.f_Gave c.f_Got) ∨
    ((∀ j o, i ≤ j → l[j]? = some o → sameC o c = false) ∧ ∀ (R : Type) (e0 : Int → Int → Int → List UInt8 → List UInt8 → Int → Int → List UInt8 → List UInt8 → Option R) (e1 : Int → Int → List UInt8 → List UInt8 → Int → Int → List UInt8 → List UInt8 → Option R),
      L76_2 (@F49 NN) NN n l (l.length : Int) (i : Int) c.f_At c.f_Mode c.f_Band c.f_Call c.f_Sent c.f_Heard c.f_Gave c.f_Got e0 e1 = e1 c.f_At c.f_Mode c.f_Band c.f_Call c.f_Sent c.f_Heard c.f_Gave c.f_Got)
  | 0, i, h, _ => by omega
  | n + 1, i, h, hi => by
    by_cases hlt : i < l.length
    · have d1 : decide ((i : Int) < (l.length : Int)) = true := by simpa using hlt
      have d2 : decide (0 ≤ (i : Int)) = true := by simp
      have g1 : l[((i : Int)).toNat]? = some l[i] := by rw [Int.toNat_natCast]; exact List.getElem?_eq_getElem hlt
      have hfi := hf _ (List.getElem_mem hlt)
      have e2 : IntKind.i64.wrap ((i : Int) + 1) = ((i + 1 : Nat) : Int) := by rw [wr (by omega) (by omega)]; omega
      cases hq : sameC l[i] c with
      | true =>
        refine .inl ⟨i, ⟨l[i], List.getElem_mem hlt, hq⟩, fun R e0 e1 => ?_⟩
        rw [L76_2]; simp only [d1, cond_true, d2, g1, F49_is hfi hc, hq]
      | false =>
        rcases find_loop l hf c hc hl n (i + 1) (by omega) (by omega) with ⟨j, h1, h2⟩ | ⟨h1, h2⟩
        · refine .inl ⟨j, h1, fun R e0 e1 => ?_⟩
          rw [L76_2]; simp only [d1, cond_true, d2, g1, F49_is hfi hc, hq, cond_false, e2]; exact h2 R e0 e1
        · refine .inr ⟨fun j o hj ho => ?_, fun R e0 e1 => ?_⟩
          · rcases Nat.eq_or_lt_of_le hj with h' | h'
            · subst h'; rw [List.getElem?_eq_getElem hlt] at ho; cases ho; exact hq
            · exact h1 j o h' ho
          · rw [L76_2]; simp only [d1, cond_true, d2, g1, F49_is hfi hc, hq, cond_false, e2]; exact h2 R e0 e1
    · have d1 : decide ((i : Int) < (l.length : Int)) = false := decide_eq_false (by omega)
      refine .inr ⟨fun j o hj ho => ?_, fun R e0 e1 => ?_⟩
      · rw [List.getElem?_eq_none (by omega)] at ho; cases ho
      · rw [L76_2]; simp only [d1, cond_false]
theorem F48_gives (l : List G_Contact) (hf : ∀ c ∈ l, Fine c) (c : G_Contact) (hc : Fine c) (hl : l.length ≤ 1000) :
    ∃ b : Bool, (b = true ↔ ∃ o ∈ l, keyC o = keyC c) ∧ ∀ (R : Type) (k : Bool → Int → Int → List UInt8 → List UInt8 → Int → Int → List UInt8 → List UInt8 → Option R),
      F48 NN l c.f_At c.f_Mode c.f_Band c.f_Call c.f_Sent c.f_Heard c.f_Gave c.f_Got k = k b c.f_At c.f_Mode c.f_Band c.f_Call c.f_Sent c.f_Heard c.f_Gave c.f_Got := by
  unfold F48 F48_ F76 F76_
  rcases find_loop l hf c hc hl NN 0 (by unfold NN; omega) (by omega) with ⟨j, ⟨o, h1, h2⟩, h3⟩ | ⟨h1, h2⟩
  · refine ⟨true, ⟨fun _ => ⟨o, h1, (same_key o c).1 h2⟩, fun _ => rfl⟩, fun R k => ?_⟩
    refine (h3 R _ _).trans ?_
    have : decide ((j : Int) ≥ 0) = true := by simp
    simp only [this]
  · refine ⟨false, ⟨fun h => (by cases h), fun ⟨o, ho, hk⟩ => ?_⟩, fun R k => (h2 R _ _).trans ?_⟩
    · obtain ⟨j, hj⟩ := List.getElem?_of_mem ho
      have := h1 j o (Nat.zero_le _) hj
      rw [(same_key o c).2 hk] at this; cases this
    · rfl
theorem dup_loop (d : List G_Contact) (hf : ∀ c ∈ d, Fine c) (hl : d.length ≤ 1000) : ∀ (n i : Nat) (m : List (G_worked × Bool)) (out : List Int), d.length - i < n → i ≤ d.length → out.length ≤ i →
    (∀ w, (mget_92_4 w m).getD false = true ↔ ∃ o ∈ d.take i, keyC o = w) →
    ∃ r, r.length ≤ 1000 ∧ ∀ (R : Type) (e0 : List Int → Option R), L43_4 (@F75 NN) NN n d (d.length : Int) (i : Int) m out e0 = e0 r ∧ L19_3 (@F48 NN) NN n d d (d.length : Int) (i : Int) out e0 = e0 r
  | 0, i, m, out, h, _, _, _ => by omega
  | n + 1, i, m, out, h, hi, ho, hm => by
    by_cases hlt : i < d.length
    · have d1 : decide ((i : Int) < (d.length : Int)) = true := by simpa using hlt
      have d2 : decide (0 ≤ (i : Int)) = true := by simp
      have d3 : (decide (0 ≤ (i : Int)) && decide ((i : Int) ≤ (d.length : Int))) = true := by simp; omega
      have d4 : decide ((i : Int) ≤ (d.length : Int)) = true := decide_eq_true (by omega)
      have g1 : d[((i : Int)).toNat]? = some d[i] := by rw [Int.toNat_natCast]; exact List.getElem?_eq_getElem hlt
      have hfi := hf _ (List.getElem_mem hlt)
      have e2 : IntKind.i64.wrap ((i : Int) + 1) = ((i + 1 : Nat) : Int) := by rw [wr (by omega) (by omega)]; omega
      have room : ∀ y : Int, decide ((out.length + [y].length) * 8 ≤ roomBytes') = true := by intro y; simp [roomBytes']; omega
      obtain ⟨b, hb, hF⟩ := F48_gives (d.take i) (fun c hc => hf c (List.mem_of_mem_take hc)) d[i] hfi (by simp; omega)
      have hbm : (mget_92_4 (keyC d[i]) m).getD false = b := by
        cases hq : (mget_92_4 (keyC d[i]) m).getD false with
        | true => exact (hb.2 ((hm _).1 hq)).symm
        | false =>
          cases b with
          | false => rfl
          | true => rw [(hm _).2 (hb.1 rfl)] at hq; cases hq
      have hm' : ∀ w, (mget_92_4 w (mset_92_4 (keyC d[i]) true m)).getD false = true ↔ ∃ o ∈ d.take (i + 1), keyC o = w := by
        intro w
        rw [get_set]
        have ht : d.take (i + 1) = d.take i ++ [d[i]] := by rw [List.take_succ_eq_append_getElem hlt]
        rw [ht]
        cases hq : eqDs (T.enc 92 w) (T.enc 92 (keyC d[i])) with
        | true =>
          have : w = keyC d[i] := (eq92 w (keyC d[i])).1 hq
          simp only [cond_true, Option.getD_some, true_iff]
          exact ⟨d[i], List.mem_append.2 (.inr (List.mem_singleton.2 rfl)), this.symm⟩
        | false =>
          simp only [cond_false]
          rw [hm w]
          constructor
          · rintro ⟨o, h1, h2⟩
            exact ⟨o, List.mem_append.2 (.inl h1), h2⟩
          · rintro ⟨o, h1, h2⟩
            rcases List.mem_append.1 h1 with h1 | h1
            · exact ⟨o, h1, h2⟩
            · simp at h1
              subst h1
              have := (eq92 w (keyC d[i])).2 h2.symm
              rw [hq] at this; cases this
      have hkc : (⟨baseB d[i].f_Call, d[i].f_Band, d[i].f_Mode⟩ : G_worked) = keyC d[i] := rfl
      cases b with
      | true =>
        obtain ⟨r, ir, ih⟩ := dup_loop d hf hl n (i + 1) (mset_92_4 (keyC d[i]) true m) (out ++ [(i : Int)]) (by omega) (by omega) (by simp; omega) hm'
        refine ⟨r, ir, fun R e0 => ⟨?_, ?_⟩⟩
        · rw [L43_4]; simp only [d1, cond_true, d2, g1, fun R k => (base_is hfi.call R k).1, hkc, hbm, room, e2]; exact (ih R e0).1
        · rw [L19_3]; simp only [d1, cond_true, d2, d4, Bool.true_and, g1]
          rw [Int.toNat_natCast]
          simp only [hF, cond_true, room, e2]; exact (ih R e0).2
      | false =>
        obtain ⟨r, ir, ih⟩ := dup_loop d hf hl n (i + 1) (mset_92_4 (keyC d[i]) true m) out (by omega) (by omega) (by omega) hm'
        refine ⟨r, ir, fun R e0 => ⟨?_, ?_⟩⟩
        · rw [L43_4]; simp only [d1, cond_true, d2, g1, fun R k => (base_is hfi.call R k).1, hkc, hbm, cond_false, e2]; exact (ih R e0).1
        · rw [L19_3]; simp only [d1, cond_true, d2, d4, Bool.true_and, g1]
          rw [Int.toNat_natCast]
          simp only [hF, cond_false, e2]; exact (ih R e0).2
    · have d1 : decide ((i : Int) < (d.length : Int)) = false := decide_eq_false (by omega)
      refine ⟨out, by omega, fun R e0 => ⟨?_, ?_⟩⟩
      · rw [L43_4]; simp only [d1, cond_false]
      · rw [L19_3]; simp only [d1, cond_false]
theorem dupes_give (d : List G_Contact) (hf : ∀ c ∈ d, Fine c) (hl : d.length ≤ 1000) (hk : ∀ (R : Type) (k : Int → Option R), F37 NN d k = k 0) :
    ∃ r, r.length ≤ 1000 ∧ (∀ (R : Type) (k : List Int → Int → Option R), F11 NN d k = k r 0) ∧ ∀ (R : Type) (k : List Int → Option R), F19 NN d k = k r := by
  obtain ⟨r, ir, ih⟩ := dup_loop d hf hl NN 0 [] [] (by unfold NN; omega) (by omega) (by simp) (fun w => by
    have h : mget_92_4 w [] = none := rfl
    rw [h]
    simp)
  refine ⟨r, ir, fun R k => ?_, fun R k => ?_⟩
  · unfold F11 F11_ F43 F43_
    simp only [hk, bne_self_eq_false, cond_false]
    exact (ih R _).1
  · unfold F19 F19_
    exact (ih R _).2
end Go.Am
namespace Go.Am
open Go Go.Proofs
def winB (f t : Int) : Bool := bif inB f 0 t then decide (t ≤ 345686400000) else false
theorem F44_is (f t : Int) (R : Type) (k : Bool → Option R) : F44 NN f t k = k (winB f t) := by
  unfold F44 F44_ winB
  simp only [F42_is, Bool.not_not]
  cases inB f 0 t <;> rfl
theorem F16_is (f t : Int) (R : Type) (k : Int → Option R) : F16 NN f t k = k (bif winB f t then 0 else 1) := by
  unfold F16 F16_ winB
  simp only [F47_is]
  cases inB f 0 t with
  | false => rfl
  | true =>
    simp only [Bool.not_true, cond_false, cond_true]
    by_cases h : t ≤ 345686400000
    · have : ¬ t > 345686400000 := by omega
      simp [h, this]
    · have : t > 345686400000 := by omega
      simp [h, this]
theorem winB_is {f t : Int} (h : winB f t = true) : 0 ≤ f ∧ f ≤ t ∧ t ≤ 345686400000 := by
  unfold winB inB at h
  by_cases h1 : 0 ≤ f
  · by_cases h2 : f ≤ t
    · simp [h1, h2] at h
      exact ⟨h1, h2, h⟩
    · simp [h1, h2] at h
  · simp [h1] at h
theorem inB_is {n lo hi : Int} (h : inB n lo hi = true) : lo ≤ n ∧ n ≤ hi := by
  unfold inB at h
  by_cases h1 : lo ≤ n
  · simp [h1] at h; exact ⟨h1, h⟩
  · simp [h1] at h
theorem put_is (to fr least : Int) (out : List G_Window) (h1 : 0 ≤ to ∧ to ≤ 345686400000) (h2 : 0 ≤ fr ∧ fr ≤ 345686400001) (h3 : 1 ≤ least) (hl : out.length ≤ 2000) :
    ∃ r : List G_Window, r.length ≤ out.length + 1 ∧ ∀ (R : Type) (k : Int → Int → List G_Window → Option R), F45 NN to fr least out k = k fr least r ∧ F51 NN to fr least out k = k fr least r := by
  unfold F45 F45_ F51 F51_
  have e1 : IntKind.i64.wrap (to - fr) = to - fr := wr (by omega) (by omega)
  have room : ∀ y : G_Window, decide ((out.length + [y].length) * 16 ≤ roomBytes') = true := by intro y; simp [roomBytes']; omega
  rw [e1]
  by_cases hc : to - fr ≥ least
  · have d1 : decide (to - fr ≥ least) = true := decide_eq_true hc
    have d2 : decide (to > fr) = true := decide_eq_true (by omega)
    exact ⟨out ++ [⟨fr, to⟩], by simp, fun R k => ⟨by simp only [d1, room, cond_true], by simp only [d1, d2, room, cond_true]⟩⟩
  · have d1 : decide (to - fr ≥ least) = false := decide_eq_false hc
    refine ⟨out, by omega, fun R k => ⟨by simp only [d1, cond_false], ?_⟩⟩
    cases decide (to > fr) <;> simp only [d1, cond_true, cond_false]
theorem pau_loop (d : List G_Contact) (hv : ∀ c ∈ d, Valid c) (hl : d.length ≤ 1000) (f t least : Int) (h3 : 1 ≤ least) : ∀ (n i : Nat) (fr : Int) (out : List G_Window), d.length - i < n → i ≤ d.length → 0 ≤ fr ∧ fr ≤ 345686400001 → out.length ≤ i →
    ∃ fr' r, (0 ≤ fr' ∧ fr' ≤ 345686400001) ∧ r.length ≤ 1000 ∧ ∀ (R : Type) (e0 : Int → Int → Int → Int → List G_Window → Option R),
      L12_10 (@F37 NN) (@F42 NN) (@F44 NN) (@F45 NN) (@F46 NN) NN n d (d.length : Int) (i : Int) f t least fr out e0 = e0 f t least fr' r ∧ L21_5 (@F51 NN) NN n d (d.length : Int) (i : Int) f t least fr out e0 = e0 f t least fr' r
  | 0, i, fr, out, h, _, _, _ => by omega
  | n + 1, i, fr, out, h, hi, hfr, ho => by
    by_cases hlt : i < d.length
    · have d1 : decide ((i : Int) < (d.length : Int)) = true := by simpa using hlt
      have d2 : decide (0 ≤ (i : Int)) = true := by simp
      have g1 : d[((i : Int)).toNat]? = some d[i] := by rw [Int.toNat_natCast]; exact List.getElem?_eq_getElem hlt
      have hvi := (hv _ (List.getElem_mem hlt)).at0
      have e2 : IntKind.i64.wrap ((i : Int) + 1) = ((i + 1 : Nat) : Int) := by rw [wr (by omega) (by omega)]; omega
      have e3 : IntKind.i64.wrap (d[i].f_At + 1) = d[i].f_At + 1 := wr (by omega) (by omega)
      cases q1 : decide (f ≤ d[i].f_At) with
      | false =>
        obtain ⟨fr', r, a1, a2, a3⟩ := pau_loop d hv hl f t least h3 n (i + 1) fr out (by omega) (by omega) hfr (by omega)
        refine ⟨fr', r, a1, a2, fun R e0 => ⟨?_, ?_⟩⟩
        · rw [L12_10]; unfold F46 F46_; simp only [d1, cond_true, d2, g1, q1, cond_false, e2]; exact (a3 R e0).1
        · rw [L21_5]; simp only [d1, cond_true, d2, g1, q1, cond_false, e2]; exact (a3 R e0).2
      | true =>
        cases q2 : decide (d[i].f_At < t) with
        | false =>
          obtain ⟨fr', r, a1, a2, a3⟩ := pau_loop d hv hl f t least h3 n (i + 1) fr out (by omega) (by omega) hfr (by omega)
          refine ⟨fr', r, a1, a2, fun R e0 => ⟨?_, ?_⟩⟩
          · rw [L12_10]; unfold F46 F46_; simp only [d1, cond_true, d2, g1, q1, q2, cond_false, e2]; exact (a3 R e0).1
          · rw [L21_5]; simp only [d1, cond_true, d2, g1, q1, q2, cond_false, e2]; exact (a3 R e0).2
        | true =>
          obtain ⟨o2, b1, b2⟩ := put_is d[i].f_At fr least out (by omega) hfr h3 (by omega)
          obtain ⟨fr', r, a1, a2, a3⟩ := pau_loop d hv hl f t least h3 n (i + 1) (d[i].f_At + 1) o2 (by omega) (by omega) (by omega) (by omega)
          refine ⟨fr', r, a1, a2, fun R e0 => ⟨?_, ?_⟩⟩
          · rw [L12_10]; unfold F46 F46_; simp only [d1, cond_true, d2, g1, q1, q2, (b2 R _).1, e2, e3]; exact (a3 R e0).1
          · rw [L21_5]; simp only [d1, cond_true, d2, g1, q1, q2, (b2 R _).2, e2, e3]; exact (a3 R e0).2
    · have d1 : decide ((i : Int) < (d.length : Int)) = false := decide_eq_false (by omega)
      refine ⟨fr, out, hfr, by omega, fun R e0 => ⟨?_, ?_⟩⟩
      · rw [L12_10]; simp only [d1, cond_false]
      · rw [L21_5]; simp only [d1, cond_false]
theorem pauses_give (d : List G_Contact) (hv : ∀ c ∈ d, Valid c) (hl : d.length ≤ 1000) (f t least : Int) (hw : winB f t = true) (h3 : inB least 1 86400000 = true) (hk : ∀ (R : Type) (k : Int → Option R), F37 NN d k = k 0) :
    ∃ r, r.length ≤ 1001 ∧ (∀ (R : Type) (k : List G_Window → Int → Option R), F12 NN d f t least k = k r 0) ∧ ∀ (R : Type) (k : List G_Window → Option R), F21 NN d f t least k = k r := by
  obtain ⟨w1, w2, w3⟩ := winB_is hw
  obtain ⟨l1, l2⟩ := inB_is h3
  obtain ⟨fr', r, a1, a2, a3⟩ := pau_loop d hv hl f t least l1 NN 0 f [] (by unfold NN; omega) (by omega) (by omega) (by simp)
  obtain ⟨o2, b1, b2⟩ := put_is t fr' least r (by omega) a1 l1 (by omega)
  refine ⟨o2, by omega, fun R k => ?_, fun R k => ?_⟩
  · unfold F12 F12_
    simp only [hk, bne_self_eq_false, cond_false, F44_is, hw, Bool.not_true, F42_is, h3]
    refine (a3 R _).1.trans ?_
    exact (b2 R _).1
  · unfold F21 F21_
    refine (a3 R _).2.trans ?_
    exact (b2 R _).2
theorem hour_loop (d : List G_Contact) (hv : ∀ c ∈ d, Valid c) (hl : d.length ≤ 1000) (f t : Int) (hw : 0 ≤ f ∧ f ≤ t ∧ t ≤ 345686400000) (m : Nat) (hm : (m : Int) = (t - f + 3599999) / 3600000) : ∀ (n i : Nat) (out : List Int), d.length - i < n → i ≤ d.length → out.length = m →
    ∃ r : List Int, r.length = m ∧ ∀ (R : Type) (e0 : List Int → Option R), L13_11 (@F37 NN) (@F44 NN) (@F46 NN) NN n d (d.length : Int) (i : Int) f t out e0 = e0 r ∧ L22_6 NN n d (d.length : Int) (i : Int) f t out e0 = e0 r
  | 0, i, out, h, _, _ => by omega
  | n + 1, i, out, h, hi, ho => by
    by_cases hlt : i < d.length
    · have d1 : decide ((i : Int) < (d.length : Int)) = true := by simpa using hlt
      have d2 : decide (0 ≤ (i : Int)) = true := by simp
      have g1 : d[((i : Int)).toNat]? = some d[i] := by rw [Int.toNat_natCast]; exact List.getElem?_eq_getElem hlt
      have hvi := (hv _ (List.getElem_mem hlt)).at0
      have e2 : IntKind.i64.wrap ((i : Int) + 1) = ((i + 1 : Nat) : Int) := by rw [wr (by omega) (by omega)]; omega
      by_cases c1 : f ≤ d[i].f_At
      · have q1 : decide (f ≤ d[i].f_At) = true := decide_eq_true c1
        by_cases c2 : d[i].f_At < t
        · have q2 : decide (d[i].f_At < t) = true := decide_eq_true c2
          have e3 : IntKind.i64.wrap (d[i].f_At - f) = d[i].f_At - f := wr (by omega) (by omega)
          have e4 : Int.tdiv (d[i].f_At - f) 3600000 = (d[i].f_At - f) / 3600000 := Int.tdiv_eq_ediv_of_nonneg (by omega)
          have e5 : IntKind.i64.wrap ((d[i].f_At - f) / 3600000) = (d[i].f_At - f) / 3600000 := wr (by omega) (by omega)
          have q3 : (decide (0 ≤ (d[i].f_At - f) / 3600000) && decide ((d[i].f_At - f) / 3600000 < (out.length : Int))) = true := by
            rw [Bool.and_eq_true, decide_eq_true_eq, decide_eq_true_eq]; omega
          have hx : ((d[i].f_At - f) / 3600000).toNat < out.length := by omega
          have g2 : out[((d[i].f_At - f) / 3600000).toNat]? = some out[((d[i].f_At - f) / 3600000).toNat] := List.getElem?_eq_getElem hx
          obtain ⟨r, ir, ih⟩ := hour_loop d hv hl f t hw m hm n (i + 1) (out.set ((d[i].f_At - f) / 3600000).toNat (IntKind.i64.wrap (out[((d[i].f_At - f) / 3600000).toNat] + 1))) (by omega) (by omega) (by simpa using ho)
          refine ⟨r, ir, fun R e0 => ⟨?_, ?_⟩⟩
          · rw [L13_11]; unfold F46 F46_; simp only [d1, cond_true, d2, g1, q1, q2, e3, e4, e5, q3, g2, e2]; exact (ih R e0).1
          · rw [L22_6]; simp only [d1, cond_true, d2, g1, q1, q2, e3, e4, e5, q3, g2, e2]; exact (ih R e0).2
        · have q2 : decide (d[i].f_At < t) = false := decide_eq_false c2
          obtain ⟨r, ir, ih⟩ := hour_loop d hv hl f t hw m hm n (i + 1) out (by omega) (by omega) ho
          refine ⟨r, ir, fun R e0 => ⟨?_, ?_⟩⟩
          · rw [L13_11]; unfold F46 F46_; simp only [d1, cond_true, d2, g1, q1, q2, cond_false, e2]; exact (ih R e0).1
          · rw [L22_6]; simp only [d1, cond_true, d2, g1, q1, q2, cond_false, e2]; exact (ih R e0).2
      · have q1 : decide (f ≤ d[i].f_At) = false := decide_eq_false c1
        obtain ⟨r, ir, ih⟩ := hour_loop d hv hl f t hw m hm n (i + 1) out (by omega) (by omega) ho
        refine ⟨r, ir, fun R e0 => ⟨?_, ?_⟩⟩
        · rw [L13_11]; unfold F46 F46_; simp only [d1, cond_true, d2, g1, q1, cond_false, e2]; exact (ih R e0).1
        · rw [L22_6]; simp only [d1, cond_true, d2, g1, q1, cond_false, e2]; exact (ih R e0).2
    · have d1 : decide ((i : Int) < (d.length : Int)) = false := decide_eq_false (by omega)
      refine ⟨out, ho, fun R e0 => ⟨?_, ?_⟩⟩
      · rw [L13_11]; simp only [d1, cond_false]
      · rw [L22_6]; simp only [d1, cond_false]
theorem hours_give (d : List G_Contact) (hv : ∀ c ∈ d, Valid c) (hl : d.length ≤ 1000) (f t : Int) (hw : winB f t = true) (hk : ∀ (R : Type) (k : Int → Option R), F37 NN d k = k 0) :
    ∃ r e, r.length ≤ 1000 ∧ (∀ (R : Type) (k : List Int → Int → Option R), F13 NN d f t k = k r e) ∧ ∀ (R : Type) (k : List Int → Int → Option R), F22 NN d f t k = k r e := by
  have w := winB_is hw
  have e1 : IntKind.i64.wrap (t - f) = t - f := wr (by omega) (by omega)
  have e2 : IntKind.i64.wrap (t - f + 3600000) = t - f + 3600000 := wr (by omega) (by omega)
  have e3 : IntKind.i64.wrap (t - f + 3600000 - 1) = t - f + 3599999 := by rw [wr (by omega) (by omega)]; omega
  have e4 : Int.tdiv (t - f + 3599999) 3600000 = (t - f + 3599999) / 3600000 := Int.tdiv_eq_ediv_of_nonneg (by omega)
  have e5 : IntKind.i64.wrap ((t - f + 3599999) / 3600000) = (t - f + 3599999) / 3600000 := wr (by omega) (by omega)
  unfold F13 F13_ F22 F22_
  simp only [hk, bne_self_eq_false, cond_false, F44_is, hw, Bool.not_true, e1, e2, e3, e4, e5]
  by_cases hc : (t - f + 3599999) / 3600000 > 1000
  · have d1 : decide ((t - f + 3599999) / 3600000 > 1000) = true := decide_eq_true hc
    exact ⟨[], 2, by simp, fun R k => by simp only [d1, cond_true], fun R k => by simp only [d1, cond_true]⟩
  · have d1 : decide ((t - f + 3599999) / 3600000 > 1000) = false := decide_eq_false hc
    have d2 : (decide (0 ≤ (t - f + 3599999) / 3600000) && (decide ((t - f + 3599999) / 3600000 ≤ (t - f + 3599999) / 3600000) && decide ((t - f + 3599999) / 3600000 * ((8 : Nat) : Int) ≤ 140737488355328))) = true := by
      simp only [Bool.and_eq_true, decide_eq_true_eq]; omega
    obtain ⟨r, ir, ih⟩ := hour_loop d hv hl f t w ((t - f + 3599999) / 3600000).toNat (by omega) NN 0 (List.replicate ((t - f + 3599999) / 3600000).toNat 0) (by unfold NN; omega) (by omega) (by simp)
    refine ⟨r, 0, by omega, fun R k => ?_, fun R k => ?_⟩
    · simp only [d1, cond_false, d2, cond_true]
      exact (ih R _).1
    · simp only [d1, cond_false, d2, cond_true]
      exact (ih R _).2
end Go.Am
