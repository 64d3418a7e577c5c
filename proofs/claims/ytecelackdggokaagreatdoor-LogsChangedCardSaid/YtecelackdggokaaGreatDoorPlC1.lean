/- The plain law, in Lean alone: C1, C2, E1. No condition: lemmas for the claim. -/
import Derived.Test.YtecelackdggokaaGreatDoorPlS1
import Derived.Test.YtecelackdggokaaGreatDoorPlB4
import Derived.Test.YtecelackdggokaaGreatDoorPlK
set_option linter.unusedVariables false
set_option linter.unusedSectionVars false
set_option linter.unusedSimpArgs false
set_option maxRecDepth 100000
namespace Go.Am
open Go Go.Proofs
variable [Fuel]
theorem Q_sign_is (x : Int) (R : Type) (k : Int → Option R) : Q_sign x k = k (sgn x) := by
  unfold Q_sign Q_sign_ sgn
  cases decide (x < 0) <;> cases decide (x > 0) <;> rfl
theorem strings_Compare_is (a b : List UInt8) (R : Type) (k : Int → Option R) : strings_Compare a b k = k (Lib.compareBytes a b) := rfl
theorem cmp_Compare__int_is (a b : Int) (R : Type) (k : Int → Option R) : cmp_Compare__int a b k = k (cmpI a b) := by
  have h1 : (a != a) = false := by simp
  have h2 : (b != b) = false := by simp
  simp only [cmp_Compare__int, cmp_Compare__int_, I_cmp_Compare__int, cmp_isNaN__int, cmp_isNaN__int_, h1, h2, cond_false, cmpI]
  cases decide (a < b) <;> cases decide (a > b) <;> rfl
theorem cmp_Or_loop (l : List Int) (hl : l.length < 1000000) : ∀ (xs : List Int) (n i : Nat), l.drop i = xs → xs.length < n → ∀ (R : Type) (k : Int → Option R),
    cmp_Or__int_L3 NN n 0 l (l.length : Int) (i : Int) (fun e8 e9 => k e8) (fun e10 => k e10) = k (orL xs)
  | _, 0, _, _, h, _, _ => by omega
  | [], n + 1, i, h, _, _, _ => by rw [cmp_Or__int_L3, ge_drop h]; rfl
  | x :: xs, n + 1, i, h, hn, R, k => by
    have h' := drop_cons h
    rw [cmp_Or__int_L3, lt_drop h]
    simp only [cond_true, get_drop h, orL]
    cases hx : x != 0 with
    | true => rfl
    | false =>
      simp only [cond_false]
      rw [w64_succ (by omega)]
      exact cmp_Or_loop l hl xs n (i + 1) h'.2.2.1 (by simp at hn; omega) R k
theorem cmp_Or__int_is (l : List Int) (hl : l.length < 1000000) (R : Type) (k : Int → Option R) : cmp_Or__int l k = k (orL l) :=
  cmp_Or_loop l hl l NN 0 rfl (by have := NN_ok; omega) R k
def ordC (x y : G_Contact) : Int :=
  bif x.f_At != y.f_At then sgn (w64 (x.f_At - y.f_At)) else bif !(x.f_Call == y.f_Call) then Lib.compareBytes x.f_Call y.f_Call
  else bif !(x.f_Band == y.f_Band) then Lib.compareBytes x.f_Band y.f_Band else sgn (w64 (x.f_Mode - y.f_Mode))
theorem Q_ContactOrder_ord (x y : G_Contact) (R : Type) (k : Int → Option R) : Q_ContactOrder x y k = k (ordC x y) := by
  simp only [Q_ContactOrder, Q_ContactOrder_, I_Q_ContactOrder, ordC, Q_sign_is, strings_Compare_is]
  cases x.f_At != y.f_At <;> cases !(x.f_Call == y.f_Call) <;> cases !(x.f_Band == y.f_Band) <;> rfl
def cmpC (x y : G_Contact) : Int := orL [cmpI x.f_At y.f_At, Lib.compareBytes x.f_Call y.f_Call, Lib.compareBytes x.f_Band y.f_Band, cmpI x.f_Mode y.f_Mode]
theorem log_Compare_is (x y : G_Contact) (R : Type) (k : Int → Option R) : log_Compare x y k = k (cmpC x y) := by
  simp only [log_Compare, log_Compare_, I_log_Compare, cmpC, cmp_Compare__int_is, strings_Compare_is, cmp_Or__int_is _ (show [cmpI x.f_At y.f_At, Lib.compareBytes x.f_Call y.f_Call, Lib.compareBytes x.f_Band y.f_Band, cmpI x.f_Mode y.f_Mode].length < 1000000 by simp)]
theorem ords_cmpC : Ords cmpC := .lex (ords_cmpI.on fun c : G_Contact => c.f_At) (.lex (ords_cb.on fun c : G_Contact => c.f_Call) (.lex (ords_cb.on fun c : G_Contact => c.f_Band) (.lex (ords_cmpI.on fun c : G_Contact => c.f_Mode) .nil)))
theorem cmpC_zero {x y : G_Contact} : cmpC x y = 0 ↔ x.f_At = y.f_At ∧ x.f_Call = y.f_Call ∧ x.f_Band = y.f_Band ∧ x.f_Mode = y.f_Mode := by
  unfold cmpC
  rw [orL_zero]
  simp only [List.mem_cons, List.not_mem_nil, or_false, forall_eq_or_imp, forall_eq, cmpI_zero]
  constructor
  · rintro ⟨h1, h2, h3, h4⟩; exact ⟨h1, cb_zero _ _ h2, cb_zero _ _ h3, h4⟩
  · rintro ⟨h1, h2, h3, h4⟩; exact ⟨h1, by rw [h2]; exact cb_self _, by rw [h3]; exact cb_self _, h4⟩
theorem ord_cmp {x y : G_Contact} (hx : Mid x.f_At) (hx2 : Mid x.f_Mode) (hy : Mid y.f_At) (hy2 : Mid y.f_Mode) : ordC x y = cmpC x y := by
  unfold ordC cmpC
  simp only [orL]
  rw [sgn_cmp ⟨by omega, by omega⟩ ⟨by omega, by omega⟩, sgn_cmp ⟨by omega, by omega⟩ ⟨by omega, by omega⟩]
  rw [ne_cmpI, ne_cb, ne_cb]
  cases h4 : cmpI x.f_Mode y.f_Mode != 0 with
  | true => rfl
  | false =>
    have : cmpI x.f_Mode y.f_Mode = 0 := by simpa using h4
    rw [this]; rfl
theorem Q_ContactOrder_is {x y : G_Contact} (hx : Fine x) (hy : Fine y) (R : Type) (k : Int → Option R) : Q_ContactOrder x y k = k (cmpC x y) := by
  rw [Q_ContactOrder_ord, ord_cmp hx.at1 hx.mode hy.at1 hy.mode]
noncomputable def keyB (s : List UInt8) : Bool := (kit_IsKey s some).getD false
noncomputable def callB (s : List UInt8) : Bool := (call_Is s some).getD false
def okBool (a b : Option Bool) : Bool := match a, b with | some x, some y => x == y | _, _ => false
theorem okBool_is {a b : Option Bool} (h : okBool a b = true) : a = some (a.getD false) ∧ b = some (a.getD false) := by
  unfold okBool at h
  split at h
  · simp at h; subst h; exact ⟨rfl, rfl⟩
  · cases h
theorem keys_ok : keysL.all (fun s => okBool (kit_IsKey s some) (Q_Key s some)) = true := by
  obtain ⟨m, h, rfl⟩ := fuel_is ‹Fuel›
  kernel_rfl
theorem calls_ok : callsL.all (fun s => okBool (call_Is s some) (Q_Call s some)) = true := by
  obtain ⟨m, h, rfl⟩ := fuel_is ‹Fuel›
  kernel_rfl
theorem kit_IsKey_is {s : List UInt8} (h : s ∈ keysL) (R : Type) (k : Bool → Option R) : kit_IsKey s k = k (keyB s) :=
  nat_bool ok_kit_IsKey.na (args := [.d (.str s)]) (F := @kit_IsKey _ s) (fun _ _ => rfl) (okBool_is (List.all_eq_true.1 keys_ok s h)).1 R k
theorem Q_Key_is {s : List UInt8} (h : s ∈ keysL) (R : Type) (k : Bool → Option R) : Q_Key s k = k (keyB s) :=
  nat_bool ok_Q_Key.na (args := [.d (.str s)]) (F := @Q_Key _ s) (fun _ _ => rfl) (okBool_is (List.all_eq_true.1 keys_ok s h)).2 R k
theorem call_Is_is {s : List UInt8} (h : s ∈ callsL) (R : Type) (k : Bool → Option R) : call_Is s k = k (callB s) :=
  nat_bool ok_call_Is.na (args := [.d (.str s)]) (F := @call_Is _ s) (fun _ _ => rfl) (okBool_is (List.all_eq_true.1 calls_ok s h)).1 R k
theorem Q_Call_is {s : List UInt8} (h : s ∈ callsL) (R : Type) (k : Bool → Option R) : Q_Call s k = k (callB s) :=
  nat_bool ok_Q_Call.na (args := [.d (.str s)]) (F := @Q_Call _ s) (fun _ _ => rfl) (okBool_is (List.all_eq_true.1 calls_ok s h)).2 R k
noncomputable def nameB (s : List UInt8) : Bool := bif s == [] then true else keyB s
theorem kit_IsName_is {s : List UInt8} (h : s ∈ keysL) (R : Type) (k : Bool → Option R) : kit_IsName s k = k (nameB s) := by
  simp only [kit_IsName, kit_IsName_, I_kit_IsName, nameB, kit_IsKey_is h]
  cases s == [] <;> rfl
def inB (n lo hi : Int) : Bool := bif decide (lo ≤ n) then decide (n ≤ hi) else false
theorem inB_is {n lo hi : Int} : inB n lo hi = true ↔ lo ≤ n ∧ n ≤ hi := by
  unfold inB
  by_cases h : lo ≤ n <;> simp [h]
theorem kit_Outside_is (n lo hi : Int) (R : Type) (k : Bool → Option R) : kit_Outside n lo hi k = k (!inB n lo hi) := by
  unfold kit_Outside kit_Outside_ inB
  by_cases h1 : n < lo
  · have h2 : ¬ lo ≤ n := by omega
    rw [decide_eq_true h1, decide_eq_false h2]; rfl
  · have h2 : lo ≤ n := by omega
    rw [decide_eq_false h1, decide_eq_true h2]
    simp only [cond_false, cond_true]
    congr 1
    by_cases h3 : n ≤ hi
    · rw [decide_eq_true h3, decide_eq_false (show ¬ n > hi by omega)]; rfl
    · rw [decide_eq_false h3, decide_eq_true (show n > hi by omega)]; rfl
theorem Q_in_is (n lo hi : Int) (R : Type) (k : Bool → Option R) : Q_in n lo hi k = k (inB n lo hi) := by
  unfold Q_in Q_in_ inB
  cases decide (lo ≤ n) <;> rfl
def momB (x : Int) : Bool := inB x 0 345686399999
theorem kit_IsMoment_is (x : Int) (R : Type) (k : Bool → Option R) : kit_IsMoment x k = k (momB x) := by
  simp only [kit_IsMoment, kit_IsMoment_, I_kit_IsMoment, kit_Outside_is, Bool.not_not, momB]
theorem kit_IsMode_is (x : Int) (R : Type) (k : Bool → Option R) : kit_IsMode x k = k (inB x 1 3) := by
  simp only [kit_IsMode, kit_IsMode_, I_kit_IsMode, kit_Outside_is, Bool.not_not]
theorem Q_Moment_is (x : Int) (R : Type) (k : Bool → Option R) : Q_Moment x k = k (momB x) := by
  simp only [Q_Moment, Q_Moment_, I_Q_Moment, Q_in_is, momB]
noncomputable def chk (c : G_Contact) : Int :=
  bif !momB c.f_At then 1 else bif !inB c.f_Mode 1 3 then 4 else bif !keyB c.f_Band then 5 else bif !callB c.f_Call then 3 else
  bif !inB c.f_Sent 0 99999 then 1 else bif !inB c.f_Heard 0 99999 then 1 else bif !nameB c.f_Gave then 5 else bif !nameB c.f_Got then 5 else 0
theorem log_CheckContact_is {c : G_Contact} (h : Fine c) (R : Type) (k : Int → Option R) : log_CheckContact c k = k (chk c) := by
  simp only [log_CheckContact, log_CheckContact_, I_log_CheckContact, chk, kit_IsMoment_is, kit_IsMode_is, kit_Outside_is, kit_IsKey_is h.band, call_Is_is h.call, kit_IsName_is h.gave, kit_IsName_is h.got]
  cases momB c.f_At <;> cases inB c.f_Mode 1 3 <;> cases keyB c.f_Band <;> cases callB c.f_Call <;> cases inB c.f_Sent 0 99999 <;> cases inB c.f_Heard 0 99999 <;> cases nameB c.f_Gave <;> cases nameB c.f_Got <;> rfl
theorem Q_ContactFault_is {c : G_Contact} (h : Fine c) (R : Type) (k : Int → Option R) : Q_ContactFault c k = k (chk c) := by
  simp only [Q_ContactFault, Q_ContactFault_, I_Q_ContactFault, chk, Q_Moment_is, Q_in_is, Q_Key_is h.band, Q_Call_is h.call, Q_Key_is h.gave, Q_Key_is h.got, nameB]
  cases momB c.f_At <;> cases inB c.f_Mode 1 3 <;> cases keyB c.f_Band <;> cases callB c.f_Call <;> cases inB c.f_Sent 0 99999 <;> cases inB c.f_Heard 0 99999 <;> cases c.f_Gave == [] <;> cases keyB c.f_Gave <;> cases c.f_Got == [] <;> cases keyB c.f_Got <;> rfl
noncomputable def faultC : Option G_Contact → List G_Contact → Int
  | _, [] => 0
  | p, c :: cs => bif chk c != 0 then chk c else match p with
    | none => faultC (some c) cs
    | some q => bif decide (cmpC q c ≥ 0) then 7 else faultC (some c) cs
def PrevAt {α : Type} (d : List α) (i : Nat) (p : Option α) : Prop := match p with | none => i = 0 | some q => 0 < i ∧ ∃ xs, d.drop (i - 1) = q :: xs
theorem prevAt_next {α : Type} {d : List α} {i : Nat} {c : α} {cs : List α} (h : d.drop i = c :: cs) : PrevAt d (i + 1) (some c) := ⟨by omega, cs, h⟩
theorem log_CheckLog_loop (d : List G_Contact) (hf : ∀ c ∈ d, Fine c) (hl : d.length ≤ 100000) : ∀ (xs : List G_Contact) (n i : Nat) (p : Option G_Contact), d.drop i = xs → PrevAt d i p → xs.length < n → ∀ (R : Type) (k : Int → Option R),
    log_CheckLog_L4 I_log_CheckLog n d d (d.length : Int) (i : Int) k (k 0) = k (faultC p xs)
  | _, 0, _, _, _, _, h, _, _ => by omega
  | [], n + 1, i, p, h, _, _, _, _ => by rw [log_CheckLog_L4, ge_drop h]; rfl
  | c :: cs, n + 1, i, p, h, hp, hn, R, k => by
    have h' := drop_cons h
    have ih := log_CheckLog_loop d hf hl cs n (i + 1) (some c) h'.2.2.1 (prevAt_next h) (by simp at hn; omega) R k
    rw [log_CheckLog_L4, lt_drop h]
    simp only [cond_true, get_drop h, I_log_CheckLog, log_CheckContact_is (hf c (mem_drop h)), log_Compare_is, faultC]
    cases hq : chk c != 0 with
    | true => rfl
    | false =>
      simp only [cond_false]
      cases p with
      | none =>
        rw [decide_eq_false (show ¬ ((i : Int) > 0) by unfold PrevAt at hp; omega), w64_succ (by omega)]
        exact ih
      | some q =>
        obtain ⟨h0, ys, hq⟩ := hp
        rw [decide_eq_true (show ((i : Int) > 0) by omega), prev_drop hq h0 (by omega), w64_succ (by omega)]
        simp only [cond_true]
        cases decide (cmpC q c ≥ 0) with
        | true => rfl
        | false => exact ih
theorem Q_LogFault_loop (d : List G_Contact) (hf : ∀ c ∈ d, Fine c) (hl : d.length ≤ 100000) : ∀ (xs : List G_Contact) (n i : Nat) (p : Option G_Contact), d.drop i = xs → PrevAt d i p → xs.length < n → ∀ (R : Type) (k : Int → Option R),
    Q_LogFault_L4 I_Q_LogFault n d d (d.length : Int) (i : Int) k (k 0) = k (faultC p xs)
  | _, 0, _, _, _, _, h, _, _ => by omega
  | [], n + 1, i, p, h, _, _, _, _ => by rw [Q_LogFault_L4, ge_drop h]; rfl
  | c :: cs, n + 1, i, p, h, hp, hn, R, k => by
    have h' := drop_cons h
    have ih := Q_LogFault_loop d hf hl cs n (i + 1) (some c) h'.2.2.1 (prevAt_next h) (by simp at hn; omega) R k
    rw [Q_LogFault_L4, lt_drop h]
    simp only [cond_true, get_drop h, I_Q_LogFault, Q_ContactFault_is (hf c (mem_drop h)), faultC]
    cases hq : chk c != 0 with
    | true => rfl
    | false =>
      simp only [cond_false]
      cases p with
      | none =>
        rw [decide_eq_false (show ¬ ((i : Int) > 0) by unfold PrevAt at hp; omega), w64_succ (by omega)]
        exact ih
      | some q =>
        obtain ⟨h0, ys, hq⟩ := hp
        rw [decide_eq_true (show ((i : Int) > 0) by omega), prev_drop hq h0 (by omega), w64_succ (by omega)]
        simp only [Q_ContactOrder_is (hf q (mem_drop hq)) (hf c (mem_drop h)), cond_true]
        cases decide (cmpC q c ≥ 0) with
        | true => rfl
        | false => exact ih
noncomputable def faultL (d : List G_Contact) : Int := bif decide ((d.length : Int) > 2000) then 2 else faultC none d
theorem log_CheckLog_is {d : List G_Contact} (hf : ∀ c ∈ d, Fine c) (hl : d.length ≤ 100000) (R : Type) (k : Int → Option R) : log_CheckLog d k = k (faultL d) := by
  have h : log_CheckLog_L4 I_log_CheckLog I_log_CheckLog.N d d (d.length : Int) 0 k (k 0) = k (faultC none d) := log_CheckLog_loop d hf hl d I_log_CheckLog.N 0 none rfl rfl (show d.length < NN by have := NN_ok; omega) R k
  simp only [log_CheckLog, log_CheckLog_, faultL, h]
  cases decide ((d.length : Int) > 2000) <;> rfl
theorem Q_LogFault_is {d : List G_Contact} (hf : ∀ c ∈ d, Fine c) (hl : d.length ≤ 100000) (R : Type) (k : Int → Option R) : Q_LogFault d k = k (faultL d) := by
  have h : Q_LogFault_L4 I_Q_LogFault I_Q_LogFault.N d d (d.length : Int) 0 k (k 0) = k (faultC none d) := Q_LogFault_loop d hf hl d I_Q_LogFault.N 0 none rfl rfl (show d.length < NN by have := NN_ok; omega) R k
  simp only [Q_LogFault, Q_LogFault_, faultL, h]
  cases decide ((d.length : Int) > 2000) <;> rfl
end Go.Am
set_option linter.unusedVariables false
set_option linter.unusedSectionVars false
set_option linter.unusedSimpArgs false
set_option maxRecDepth 100000
namespace Go.Am
open Go Go.Proofs
variable [Fuel]
theorem sortC_ord {l : List G_Contact} (hf : ∀ c ∈ l, Fine c) (hl : l.length ≤ 20) (R : Type) (k : List G_Contact → Option R) : slices_SortStableFunc__Contact_Q_ContactOrder l k = k (sortI cmpC l) := by
  simp only [slices_SortStableFunc__Contact_Q_ContactOrder, slices_SortStableFunc__Contact_Q_ContactOrder_, I_slices_SortStableFunc__Contact_Q_ContactOrder, li_slices_stableCmpFunc__Contact_Q_ContactOrder]
  exact sSta_is cmpC Fine (fun x y hx hy => Q_ContactOrder_is hx hy) l hf hl (by have := NN_ok; omega) (by have := NN_ok; omega) _ (fun l a b R k => by rw [li_slices_insertionSortCmpFunc__Contact_Q_ContactOrder]) k
theorem Stream_Contacts_1_is {x y : G_Contact} (hx : Fine x) (hy : Fine y) (R : Type) (k : Bool → Option R) : Stream_Contacts_1 x y k = k (cmpC x y == 0) := by
  simp only [Stream_Contacts_1, Stream_Contacts_1_, I_Stream_Contacts_1, Q_ContactOrder_is hx hy]
theorem compfC_is {l : List G_Contact} (hf : ∀ c ∈ l, Fine c) (hl : l.length ≤ 100000) (R : Type) (k : List G_Contact → Option R) : slices_CompactFunc__Contact_Stream_Contacts_1 l k = k (compactP (fun x y => cmpC x y == 0) l) := by
  rw [li_slices_CompactFunc__Contact_Stream_Contacts_1]
  exact sComp_is _ Fine (fun x y hx hy R k => Stream_Contacts_1_is hx hy R k) l (by have := NN_ok; omega) (by have := NN_ok; omega) hf k
theorem cloneC_is {l : List G_Contact} (hl : l.length ≤ 1000000) (R : Type) (k : List G_Contact → Option R) : slices_Clone__Contact l k = k l := X_clone_is l hl (by omega) k
theorem equalC_is {l : List G_Contact} (hl : l.length ≤ 1000000) (R : Type) (k : Bool → Option R) : slices_Equal__Contact l l k = k true := by
  rw [li_slices_Equal__Contact]; exact sEqual_same (by have := NN_ok; omega) (by have := NN_ok; omega) (fun x => by rw [(eq_G_Contact_is x x).2 rfl]; rfl) k
theorem Stream_Contacts_loop (m : Nat) (hm : m ≤ 1000) : ∀ (n i : Nat) (at0 : Int) (s : G_Stream) (out : List G_Contact) (b : Int), m - i < n → i ≤ m → SOk (b + 31 * (i : Int)) s → b ≤ 1000000 → 0 ≤ at0 → at0 ≤ 1500000 * (i : Int) → out.length = i → (∀ c ∈ out, Fine c ∧ c.f_Heard ≤ 1099511627776) → m ≤ 600 →
    ∃ (r : List G_Contact) (s' : G_Stream), SOk (b + 31 * (m : Int)) s' ∧ r.length = m ∧ (∀ c ∈ r, Fine c ∧ c.f_Heard ≤ 1099511627776) ∧ ∀ (R : Type) (e0 : G_Stream → List G_Contact → Option R), Stream_Contacts_L4 I_Stream_Contacts n at0 (m : Int) (i : Int) s out e0 = e0 s' r
  | 0, i, _, _, _, _, h, _, _, _, _, _, _, _, _ => by omega
  | n + 1, i, at0, s, out, b, h, hi, hs, hb, h1, h2, ho, hf, hm6 => by
    by_cases hc : i < m
    · obtain ⟨p, s1, hp, z1, ep⟩ := Stream_Pick_gives hs [0, 1, 10, 50, 1000, 40000, 1500000] (by omega) (by simp) (by simp)
      have hp' : 0 ≤ p ∧ p ≤ 1500000 := by
        simp only [List.mem_cons, List.not_mem_nil, or_false] at hp
        omega
      have e1 : w64 (at0 + p) = at0 + p := w64_eq (by omega) (by omega)
      obtain ⟨c, s2, hcf, hch, z2, ec⟩ := Stream_SomeContact_gives z1 (at0 + p) (by omega) (by omega) (by omega)
      obtain ⟨r, s', g1, g2, g3, g4⟩ := Stream_Contacts_loop m hm n (i + 1) (at0 + p) s2 (out ++ [c]) b (by omega) (by omega) (z2.mono (by omega)) hb (by omega) (by omega) (by simp [ho]) (fun x hx => by
        rcases List.mem_append.1 hx with h | h
        · exact hf x h
        · simp at h; rw [h]; exact ⟨hcf, hch⟩) hm6
      refine ⟨r, s', g1, g2, g3, fun R e0 => ?_⟩
      rw [Stream_Contacts_L4]
      simp only [I_Stream_Contacts, decide_eq_true (show (i : Int) < (m : Int) by omega), cond_true, ep, e1, ec, room1 out c 96 (by omega) (by omega)]
      rw [w64_succ (by omega)]
      exact g4 R e0
    · refine ⟨out, s, hs.mono (by omega), by omega, hf, fun R e0 => ?_⟩
      rw [Stream_Contacts_L4, decide_eq_false (by omega)]; rfl
theorem Stream_Contacts_gives {b : Int} {s : G_Stream} (hs : SOk b s) (hb : b ≤ 1000000) (m : Nat) (hm : m ≤ 20) :
    ∃ (r : List G_Contact) (s' : G_Stream), SOk (b + 31 * (m : Int)) s' ∧ r.length ≤ m ∧ (∀ c ∈ r, Fine c ∧ c.f_Heard ≤ 1099511627776) ∧ ∀ (R : Type) (k : List G_Contact → G_Stream → Option R), Stream_Contacts s (m : Int) k = k r s' := by
  obtain ⟨r, s', g1, g2, g3, g4⟩ := Stream_Contacts_loop m (by omega) NN 0 0 s [] b (by have := NN_ok; omega) (by omega) (hs.mono (by omega)) hb (by omega) (by omega) rfl (fun c h => by cases h) (by omega)
  have g4' : ∀ (R : Type) (e0 : G_Stream → List G_Contact → Option R), Stream_Contacts_L4 I_Stream_Contacts I_Stream_Contacts.N 0 (m : Int) 0 s [] e0 = e0 s' r := g4
  have hr : ∀ c ∈ r, Fine c := fun c h => (g3 c h).1
  have hsr : ∀ c ∈ sortI cmpC r, Fine c := fun c h => hr c (sortI_mem.1 h)
  refine ⟨compactP (fun x y => cmpC x y == 0) (sortI cmpC r), s', g1, ?_, fun c h => g3 c (sortI_mem.1 (compactP_sub h)), fun R k => ?_⟩
  · have := compactP_len (fun x y => cmpC x y == 0) (sortI cmpC r)
    have := sortI_length cmpC r
    omega
  · simp only [Stream_Contacts, Stream_Contacts_, g4']
    simp only [I_Stream_Contacts, sortC_ord hr (by omega), compfC_is hsr (by rw [sortI_length]; omega)]
end Go.Am
set_option linter.unusedVariables false
set_option linter.unusedSectionVars false
set_option linter.unusedSimpArgs false
set_option maxRecDepth 100000
namespace Go.Am
open Go Go.Proofs
variable [Fuel]
theorem law_errs_loop (l : List Int) (hl : l.length < 1000000) : ∀ (xs : List Int) (n i : Nat), l.drop i = xs → xs.length < n → ∀ (R : Type) (k : Int → Option R),
    law_errs_L2 NN n l (l.length : Int) (i : Int) k (k 0) = k (orL xs)
  | _, 0, _, _, h, _, _ => by omega
  | [], n + 1, i, h, _, _, _ => by rw [law_errs_L2, ge_drop h]; rfl
  | x :: xs, n + 1, i, h, hn, R, k => by
    have h' := drop_cons h
    have ih := law_errs_loop l hl xs n (i + 1) h'.2.2.1 (by simp at hn; omega) R k
    rw [law_errs_L2, lt_drop h, w64_succ (by omega), ih]
    simp only [cond_true, get_drop h, orL]
    cases x != 0 <;> rfl
theorem law_errs_is (l : List Int) (hl : l.length < 1000000) (R : Type) (k : Int → Option R) : law_errs l k = k (orL l) :=
  law_errs_loop l hl l NN 0 rfl (by have := NN_ok; omega) R k
end Go.Am
