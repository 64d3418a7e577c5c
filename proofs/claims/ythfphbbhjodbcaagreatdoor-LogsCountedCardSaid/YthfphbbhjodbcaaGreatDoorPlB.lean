/- The plain law, in Lean alone: Pl4, Pl5. No condition: lemmas for the claim. -/
import Derived.Test.YthfphbbhjodbcaaGreatDoorPlA
set_option linter.unusedVariables false
set_option linter.unusedSimpArgs false
set_option maxRecDepth 100000
namespace Go.Am
open Go Go.Proofs
def keyB (s : List UInt8) : Bool := (F66 NN s (fun b => some b)).getD false
def callB (s : List UInt8) : Bool := (F67 NN s (fun b => some b)).getD false
def baseB (s : List UInt8) : List UInt8 := (F75 NN s (fun b => some b)).getD []
theorem ik0 (R : Type) (k : Bool → Option R) : F66 NN [98, 50, 48] k = k (keyB [98, 50, 48]) := by kernel_rfl
theorem rk0 (R : Type) (k : Bool → Option R) : F70 NN [98, 50, 48] k = k (keyB [98, 50, 48]) := by kernel_rfl
theorem ik1 (R : Type) (k : Bool → Option R) : F66 NN [98, 52, 48] k = k (keyB [98, 52, 48]) := by kernel_rfl
theorem rk1 (R : Type) (k : Bool → Option R) : F70 NN [98, 52, 48] k = k (keyB [98, 52, 48]) := by kernel_rfl
theorem ik2 (R : Type) (k : Bool → Option R) : F66 NN [] k = k (keyB []) := by kernel_rfl
theorem rk2 (R : Type) (k : Bool → Option R) : F70 NN [] k = k (keyB []) := by kernel_rfl
theorem ik3 (R : Type) (k : Bool → Option R) : F66 NN [66] k = k (keyB [66]) := by kernel_rfl
theorem rk3 (R : Type) (k : Bool → Option R) : F70 NN [66] k = k (keyB [66]) := by kernel_rfl
theorem ik4 (R : Type) (k : Bool → Option R) : F66 NN [102, 105, 110] k = k (keyB [102, 105, 110]) := by kernel_rfl
theorem rk4 (R : Type) (k : Bool → Option R) : F70 NN [102, 105, 110] k = k (keyB [102, 105, 110]) := by kernel_rfl
theorem ik5 (R : Type) (k : Bool → Option R) : F66 NN [117, 115, 97] k = k (keyB [117, 115, 97]) := by kernel_rfl
theorem rk5 (R : Type) (k : Bool → Option R) : F70 NN [117, 115, 97] k = k (keyB [117, 115, 97]) := by kernel_rfl
theorem ik6 (R : Type) (k : Bool → Option R) : F66 NN [65] k = k (keyB [65]) := by kernel_rfl
theorem rk6 (R : Type) (k : Bool → Option R) : F70 NN [65] k = k (keyB [65]) := by kernel_rfl
theorem ik7 (R : Type) (k : Bool → Option R) : F66 NN [49] k = k (keyB [49]) := by kernel_rfl
theorem rk7 (R : Type) (k : Bool → Option R) : F70 NN [49] k = k (keyB [49]) := by kernel_rfl
theorem ic0 (R : Type) (k : Bool → Option R) : F67 NN [] k = k (callB []) := by kernel_rfl
theorem rc0 (R : Type) (k : Bool → Option R) : F71 NN [] k = k (callB []) := by kernel_rfl
theorem ib0 (R : Type) (k : List UInt8 → Option R) : F75 NN [] k = k (baseB []) := by kernel_rfl
theorem rb0 (R : Type) (k : List UInt8 → Option R) : F50 NN [] k = k (baseB []) := by kernel_rfl
theorem ic1 (R : Type) (k : Bool → Option R) : F67 NN [107, 49] k = k (callB [107, 49]) := by kernel_rfl
theorem rc1 (R : Type) (k : Bool → Option R) : F71 NN [107, 49] k = k (callB [107, 49]) := by kernel_rfl
theorem ib1 (R : Type) (k : List UInt8 → Option R) : F75 NN [107, 49] k = k (baseB [107, 49]) := by kernel_rfl
theorem rb1 (R : Type) (k : List UInt8 → Option R) : F50 NN [107, 49] k = k (baseB [107, 49]) := by kernel_rfl
theorem ic2 (R : Type) (k : Bool → Option R) : F67 NN [75, 49, 65, 66] k = k (callB [75, 49, 65, 66]) := by kernel_rfl
theorem rc2 (R : Type) (k : Bool → Option R) : F71 NN [75, 49, 65, 66] k = k (callB [75, 49, 65, 66]) := by kernel_rfl
theorem ib2 (R : Type) (k : List UInt8 → Option R) : F75 NN [75, 49, 65, 66] k = k (baseB [75, 49, 65, 66]) := by kernel_rfl
theorem rb2 (R : Type) (k : List UInt8 → Option R) : F50 NN [75, 49, 65, 66] k = k (baseB [75, 49, 65, 66]) := by kernel_rfl
theorem ic3 (R : Type) (k : Bool → Option R) : F67 NN [107, 49, 97, 98, 47] k = k (callB [107, 49, 97, 98, 47]) := by kernel_rfl
theorem rc3 (R : Type) (k : Bool → Option R) : F71 NN [107, 49, 97, 98, 47] k = k (callB [107, 49, 97, 98, 47]) := by kernel_rfl
theorem ib3 (R : Type) (k : List UInt8 → Option R) : F75 NN [107, 49, 97, 98, 47] k = k (baseB [107, 49, 97, 98, 47]) := by kernel_rfl
theorem rb3 (R : Type) (k : List UInt8 → Option R) : F50 NN [107, 49, 97, 98, 47] k = k (baseB [107, 49, 97, 98, 47]) := by kernel_rfl
theorem ic4 (R : Type) (k : Bool → Option R) : F67 NN [49, 97] k = k (callB [49, 97]) := by kernel_rfl
theorem rc4 (R : Type) (k : Bool → Option R) : F71 NN [49, 97] k = k (callB [49, 97]) := by kernel_rfl
theorem ib4 (R : Type) (k : List UInt8 → Option R) : F75 NN [49, 97] k = k (baseB [49, 97]) := by kernel_rfl
theorem rb4 (R : Type) (k : List UInt8 → Option R) : F50 NN [49, 97] k = k (baseB [49, 97]) := by kernel_rfl
theorem ic5 (R : Type) (k : Bool → Option R) : F67 NN [107, 49, 97, 98, 47, 109, 109, 47, 112] k = k (callB [107, 49, 97, 98, 47, 109, 109, 47, 112]) := by kernel_rfl
theorem rc5 (R : Type) (k : Bool → Option R) : F71 NN [107, 49, 97, 98, 47, 109, 109, 47, 112] k = k (callB [107, 49, 97, 98, 47, 109, 109, 47, 112]) := by kernel_rfl
theorem ib5 (R : Type) (k : List UInt8 → Option R) : F75 NN [107, 49, 97, 98, 47, 109, 109, 47, 112] k = k (baseB [107, 49, 97, 98, 47, 109, 109, 47, 112]) := by kernel_rfl
theorem rb5 (R : Type) (k : List UInt8 → Option R) : F50 NN [107, 49, 97, 98, 47, 109, 109, 47, 112] k = k (baseB [107, 49, 97, 98, 47, 109, 109, 47, 112]) := by kernel_rfl
theorem ic6 (R : Type) (k : Bool → Option R) : F67 NN [107, 49, 97, 98] k = k (callB [107, 49, 97, 98]) := by kernel_rfl
theorem rc6 (R : Type) (k : Bool → Option R) : F71 NN [107, 49, 97, 98] k = k (callB [107, 49, 97, 98]) := by kernel_rfl
theorem ib6 (R : Type) (k : List UInt8 → Option R) : F75 NN [107, 49, 97, 98] k = k (baseB [107, 49, 97, 98]) := by kernel_rfl
theorem rb6 (R : Type) (k : List UInt8 → Option R) : F50 NN [107, 49, 97, 98] k = k (baseB [107, 49, 97, 98]) := by kernel_rfl
theorem ic7 (R : Type) (k : Bool → Option R) : F67 NN [107, 49, 97, 97] k = k (callB [107, 49, 97, 97]) := by kernel_rfl
theorem rc7 (R : Type) (k : Bool → Option R) : F71 NN [107, 49, 97, 97] k = k (callB [107, 49, 97, 97]) := by kernel_rfl
theorem ib7 (R : Type) (k : List UInt8 → Option R) : F75 NN [107, 49, 97, 97] k = k (baseB [107, 49, 97, 97]) := by kernel_rfl
theorem rb7 (R : Type) (k : List UInt8 → Option R) : F50 NN [107, 49, 97, 97] k = k (baseB [107, 49, 97, 97]) := by kernel_rfl
theorem ic8 (R : Type) (k : Bool → Option R) : F67 NN [107, 49, 97, 98, 47, 52] k = k (callB [107, 49, 97, 98, 47, 52]) := by kernel_rfl
theorem rc8 (R : Type) (k : Bool → Option R) : F71 NN [107, 49, 97, 98, 47, 52] k = k (callB [107, 49, 97, 98, 47, 52]) := by kernel_rfl
theorem ib8 (R : Type) (k : List UInt8 → Option R) : F75 NN [107, 49, 97, 98, 47, 52] k = k (baseB [107, 49, 97, 98, 47, 52]) := by kernel_rfl
theorem rb8 (R : Type) (k : List UInt8 → Option R) : F50 NN [107, 49, 97, 98, 47, 52] k = k (baseB [107, 49, 97, 98, 47, 52]) := by kernel_rfl
theorem ic9 (R : Type) (k : Bool → Option R) : F67 NN [111, 104, 50, 97, 98, 99] k = k (callB [111, 104, 50, 97, 98, 99]) := by kernel_rfl
theorem rc9 (R : Type) (k : Bool → Option R) : F71 NN [111, 104, 50, 97, 98, 99] k = k (callB [111, 104, 50, 97, 98, 99]) := by kernel_rfl
theorem ib9 (R : Type) (k : List UInt8 → Option R) : F75 NN [111, 104, 50, 97, 98, 99] k = k (baseB [111, 104, 50, 97, 98, 99]) := by kernel_rfl
theorem rb9 (R : Type) (k : List UInt8 → Option R) : F50 NN [111, 104, 50, 97, 98, 99] k = k (baseB [111, 104, 50, 97, 98, 99]) := by kernel_rfl
theorem ic10 (R : Type) (k : Bool → Option R) : F67 NN [111, 104, 50, 97, 98, 100] k = k (callB [111, 104, 50, 97, 98, 100]) := by kernel_rfl
theorem rc10 (R : Type) (k : Bool → Option R) : F71 NN [111, 104, 50, 97, 98, 100] k = k (callB [111, 104, 50, 97, 98, 100]) := by kernel_rfl
theorem ib10 (R : Type) (k : List UInt8 → Option R) : F75 NN [111, 104, 50, 97, 98, 100] k = k (baseB [111, 104, 50, 97, 98, 100]) := by kernel_rfl
theorem rb10 (R : Type) (k : List UInt8 → Option R) : F50 NN [111, 104, 50, 97, 98, 100] k = k (baseB [111, 104, 50, 97, 98, 100]) := by kernel_rfl
theorem ic11 (R : Type) (k : Bool → Option R) : F67 NN [119, 49, 97, 119] k = k (callB [119, 49, 97, 119]) := by kernel_rfl
theorem rc11 (R : Type) (k : Bool → Option R) : F71 NN [119, 49, 97, 119] k = k (callB [119, 49, 97, 119]) := by kernel_rfl
theorem ib11 (R : Type) (k : List UInt8 → Option R) : F75 NN [119, 49, 97, 119] k = k (baseB [119, 49, 97, 119]) := by kernel_rfl
theorem rb11 (R : Type) (k : List UInt8 → Option R) : F50 NN [119, 49, 97, 119] k = k (baseB [119, 49, 97, 119]) := by kernel_rfl
theorem ic12 (R : Type) (k : Bool → Option R) : F67 NN [110, 49, 109, 109] k = k (callB [110, 49, 109, 109]) := by kernel_rfl
theorem rc12 (R : Type) (k : Bool → Option R) : F71 NN [110, 49, 109, 109] k = k (callB [110, 49, 109, 109]) := by kernel_rfl
theorem ib12 (R : Type) (k : List UInt8 → Option R) : F75 NN [110, 49, 109, 109] k = k (baseB [110, 49, 109, 109]) := by kernel_rfl
theorem rb12 (R : Type) (k : List UInt8 → Option R) : F50 NN [110, 49, 109, 109] k = k (baseB [110, 49, 109, 109]) := by kernel_rfl
theorem ic13 (R : Type) (k : Bool → Option R) : F67 NN [103, 51, 120, 121, 122, 47, 112] k = k (callB [103, 51, 120, 121, 122, 47, 112]) := by kernel_rfl
theorem rc13 (R : Type) (k : Bool → Option R) : F71 NN [103, 51, 120, 121, 122, 47, 112] k = k (callB [103, 51, 120, 121, 122, 47, 112]) := by kernel_rfl
theorem ib13 (R : Type) (k : List UInt8 → Option R) : F75 NN [103, 51, 120, 121, 122, 47, 112] k = k (baseB [103, 51, 120, 121, 122, 47, 112]) := by kernel_rfl
theorem rb13 (R : Type) (k : List UInt8 → Option R) : F50 NN [103, 51, 120, 121, 122, 47, 112] k = k (baseB [103, 51, 120, 121, 122, 47, 112]) := by kernel_rfl
theorem key_is {s : List UInt8} (h : s ∈ keysL) (R : Type) (k : Bool → Option R) : F66 NN s k = k (keyB s) ∧ F70 NN s k = k (keyB s) := by
  simp only [keysL, List.mem_cons, List.not_mem_nil, or_false] at h
  rcases h with rfl | rfl | rfl | rfl | rfl | rfl | rfl | rfl
  · exact ⟨ik0 R k, rk0 R k⟩
  · exact ⟨ik1 R k, rk1 R k⟩
  · exact ⟨ik2 R k, rk2 R k⟩
  · exact ⟨ik3 R k, rk3 R k⟩
  · exact ⟨ik4 R k, rk4 R k⟩
  · exact ⟨ik5 R k, rk5 R k⟩
  · exact ⟨ik6 R k, rk6 R k⟩
  · exact ⟨ik7 R k, rk7 R k⟩
theorem call_is {s : List UInt8} (h : s ∈ callsL) (R : Type) (k : Bool → Option R) : F67 NN s k = k (callB s) ∧ F71 NN s k = k (callB s) := by
  simp only [callsL, List.mem_cons, List.not_mem_nil, or_false] at h
  rcases h with rfl | rfl | rfl | rfl | rfl | rfl | rfl | rfl | rfl | rfl | rfl | rfl | rfl | rfl
  · exact ⟨ic0 R k, rc0 R k⟩
  · exact ⟨ic1 R k, rc1 R k⟩
  · exact ⟨ic2 R k, rc2 R k⟩
  · exact ⟨ic3 R k, rc3 R k⟩
  · exact ⟨ic4 R k, rc4 R k⟩
  · exact ⟨ic5 R k, rc5 R k⟩
  · exact ⟨ic6 R k, rc6 R k⟩
  · exact ⟨ic7 R k, rc7 R k⟩
  · exact ⟨ic8 R k, rc8 R k⟩
  · exact ⟨ic9 R k, rc9 R k⟩
  · exact ⟨ic10 R k, rc10 R k⟩
  · exact ⟨ic11 R k, rc11 R k⟩
  · exact ⟨ic12 R k, rc12 R k⟩
  · exact ⟨ic13 R k, rc13 R k⟩
theorem base_is {s : List UInt8} (h : s ∈ callsL) (R : Type) (k : List UInt8 → Option R) : F75 NN s k = k (baseB s) ∧ F50 NN s k = k (baseB s) := by
  simp only [callsL, List.mem_cons, List.not_mem_nil, or_false] at h
  rcases h with rfl | rfl | rfl | rfl | rfl | rfl | rfl | rfl | rfl | rfl | rfl | rfl | rfl | rfl
  · exact ⟨ib0 R k, rb0 R k⟩
  · exact ⟨ib1 R k, rb1 R k⟩
  · exact ⟨ib2 R k, rb2 R k⟩
  · exact ⟨ib3 R k, rb3 R k⟩
  · exact ⟨ib4 R k, rb4 R k⟩
  · exact ⟨ib5 R k, rb5 R k⟩
  · exact ⟨ib6 R k, rb6 R k⟩
  · exact ⟨ib7 R k, rb7 R k⟩
  · exact ⟨ib8 R k, rb8 R k⟩
  · exact ⟨ib9 R k, rb9 R k⟩
  · exact ⟨ib10 R k, rb10 R k⟩
  · exact ⟨ib11 R k, rb11 R k⟩
  · exact ⟨ib12 R k, rb12 R k⟩
  · exact ⟨ib13 R k, rb13 R k⟩
def inB (n lo hi : Int) : Bool := bif decide (lo ≤ n) then decide (n ≤ hi) else false
theorem F47_is (n lo hi : Int) (R : Type) (k : Bool → Option R) : F47 NN n lo hi k = k (inB n lo hi) := by
  unfold F47 F47_ inB
  cases decide (lo ≤ n) <;> rfl
theorem F42_is (n lo hi : Int) (R : Type) (k : Bool → Option R) : F42 NN n lo hi k = k (!inB n lo hi) := by
  unfold F42 F42_ inB
  by_cases h : n < lo
  · have h1 : decide (lo ≤ n) = false := by simp; omega
    simp [h, h1]
  · have h1 : decide (lo ≤ n) = true := by simp; omega
    have h2 : decide (n < lo) = false := by simpa using h
    simp only [h1, h2, cond_false, cond_true]
    congr 1
    by_cases h3 : n ≤ hi
    · simp [h3]
    · have : n > hi := by omega
      simp [h3, this]
def nameB (s : List UInt8) : Bool := bif s == [] then true else keyB s
def chk (c : G_Contact) : Int :=
  bif !inB c.f_At 0 345686399999 then 1 else bif !inB c.f_Mode 1 3 then 4 else bif !keyB c.f_Band then 5 else bif !callB c.f_Call then 3 else
  bif !inB c.f_Sent 0 99999 then 1 else bif !inB c.f_Heard 0 99999 then 1 else bif !nameB c.f_Gave then 5 else bif !nameB c.f_Got then 5 else 0
theorem F68_is {s : List UInt8} (h : s ∈ keysL) (R : Type) (k : Bool → Option R) : F68 NN s k = k (nameB s) := by
  unfold F68 F68_ nameB
  cases s == [] with
  | true => rfl
  | false => simp only [cond_false]; exact (key_is h R _).1
theorem F35_is {c : G_Contact} (h : Fine c) (R : Type) (k : Int → Option R) : F35 NN c.f_At c.f_Mode c.f_Band c.f_Call c.f_Sent c.f_Heard c.f_Gave c.f_Got k = k (chk c) := by
  unfold F35 F35_ chk F64 F64_ F65 F65_
  simp only [F42_is, Bool.not_not, fun R k => (key_is h.band R k).1, fun R k => (call_is h.call R k).1, F68_is h.gave, F68_is h.got]
  cases inB c.f_At 0 345686399999 <;> cases inB c.f_Mode 1 3 <;> cases keyB c.f_Band <;> cases callB c.f_Call <;> cases inB c.f_Sent 0 99999 <;> cases inB c.f_Heard 0 99999 <;> cases nameB c.f_Gave <;> cases nameB c.f_Got <;> rfl
theorem F36_is {c : G_Contact} (h : Fine c) (R : Type) (k : Int → Option R) : F36 NN c.f_At c.f_Mode c.f_Band c.f_Call c.f_Sent c.f_Heard c.f_Gave c.f_Got k = k (chk c) := by
  unfold F36 F36_ chk F69 F69_ nameB
  simp only [F47_is, fun R k => (key_is h.band R k).2, fun R k => (call_is h.call R k).2, fun R k => (key_is h.gave R k).2, fun R k => (key_is h.got R k).2]
  cases inB c.f_At 0 345686399999 <;> cases inB c.f_Mode 1 3 <;> cases keyB c.f_Band <;> cases callB c.f_Call <;> cases inB c.f_Sent 0 99999 <;> cases inB c.f_Heard 0 99999 <;> cases c.f_Gave == [] <;> cases keyB c.f_Gave <;> cases c.f_Got == [] <;> cases keyB c.f_Got <;> rfl
structure Valid (c : G_Contact) : Prop where
  at0 : 0 ≤ c.f_At ∧ c.f_At ≤ 345686399999
  sent : 0 ≤ c.f_Sent ∧ c.f_Sent ≤ 99999
theorem chk_valid {c : G_Contact} (h : chk c = 0) : Valid c := by
  unfold chk at h
  cases h1 : inB c.f_At 0 345686399999 with
  | false => rw [h1] at h; simp at h
  | true =>
    cases h2 : inB c.f_Sent 0 99999 with
    | false =>
      rw [h1, h2] at h
      revert h
      cases inB c.f_Mode 1 3 <;> cases keyB c.f_Band <;> cases callB c.f_Call <;> simp
    | true =>
      unfold inB at h1 h2
      constructor
      · revert h1
        cases ha : decide (0 ≤ c.f_At) <;> simp
        simp at ha
        exact fun h => ⟨ha, h⟩
      · revert h2
        cases ha : decide (0 ≤ c.f_Sent) <;> simp
        simp at ha
        exact fun h => ⟨ha, h⟩
theorem logs_loop (d : List G_Contact) (hf : ∀ c ∈ d, Fine c) (hl : d.length ≤ 1000) : ∀ (n i : Nat), d.length - i < n → i ≤ d.length →
    (∃ e : Int, e ≠ 0 ∧ ∀ (R : Type) (e0 : Int → Option R) (e1 : Option R), L37_4 (@F35 NN) (@F58 NN) NN n d d (d.length : Int) (i : Int) e0 e1 = e0 e ∧ L14_4 (@F36 NN) (@F39 NN) NN n d d (d.length : Int) (i : Int) e0 e1 = e0 e) ∨
    ((∀ j c, i ≤ j → d[j]? = some c → Valid c) ∧ ∀ (R : Type) (e0 : Int → Option R) (e1 : Option R), L37_4 (@F35 NN) (@F58 NN) NN n d d (d.length : Int) (i : Int) e0 e1 = e1 ∧ L14_4 (@F36 NN) (@F39 NN) NN n d d (d.length : Int) (i : Int) e0 e1 = e1)
  | 0, i, h, _ => by omega
  | n + 1, i, h, hi => by
    by_cases hc : i < d.length
    · have d1 : decide ((i : Int) < (d.length : Int)) = true := by simpa using hc
      have d2 : decide (0 ≤ (i : Int)) = true := by simp
      have g1 : d[((i : Int)).toNat]? = some d[i] := by rw [Int.toNat_natCast]; exact List.getElem?_eq_getElem hc
      have hfi := hf _ (List.getElem_mem hc)
      have e2 : IntKind.i64.wrap ((i : Int) + 1) = ((i + 1 : Nat) : Int) := by rw [wr (by omega) (by omega)]; omega
      cases hq : chk d[i] != 0 with
      | true =>
        refine .inl ⟨chk d[i], by simpa using hq, fun R e0 e1 => ⟨?_, ?_⟩⟩
        · rw [L37_4]; simp only [d1, cond_true, d2, g1, F35_is hfi, hq]
        · rw [L14_4]; simp only [d1, cond_true, d2, g1, F36_is hfi, hq]
      | false =>
        have hv : Valid d[i] := chk_valid (by simpa using hq)
        have hrec := logs_loop d hf hl n (i + 1) (by omega) (by omega)
        have step : (∀ j c, i + 1 ≤ j → d[j]? = some c → Valid c) → ∀ j c, i ≤ j → d[j]? = some c → Valid c := by
          intro h j c hj hjc
          rcases Nat.eq_or_lt_of_le hj with h' | h'
          · subst h'
            rw [List.getElem?_eq_getElem hc] at hjc
            cases hjc
            exact hv
          · exact h j c h' hjc
        by_cases h0 : i = 0
        · have d3 : decide ((i : Int) > 0) = false := by simp; omega
          rcases hrec with ⟨e, he, hr⟩ | ⟨hvv, hr⟩
          · refine .inl ⟨e, he, fun R e0 e1 => ⟨?_, ?_⟩⟩
            · rw [L37_4]; simp only [d1, cond_true, d2, g1, F35_is hfi, hq, cond_false, d3, e2]; exact (hr R e0 e1).1
            · rw [L14_4]; simp only [d1, cond_true, d2, g1, F36_is hfi, hq, cond_false, d3, e2]; exact (hr R e0 e1).2
          · refine .inr ⟨step hvv, fun R e0 e1 => ⟨?_, ?_⟩⟩
            · rw [L37_4]; simp only [d1, cond_true, d2, g1, F35_is hfi, hq, cond_false, d3, e2]; exact (hr R e0 e1).1
            · rw [L14_4]; simp only [d1, cond_true, d2, g1, F36_is hfi, hq, cond_false, d3, e2]; exact (hr R e0 e1).2
        · have d3 : decide ((i : Int) > 0) = true := by simp; omega
          have e1' : IntKind.i64.wrap ((i : Int) - 1) = ((i - 1 : Nat) : Int) := by rw [wr (by omega) (by omega)]; omega
          have d4 : decide (0 ≤ ((i - 1 : Nat) : Int)) = true := by simp
          have hlt : i - 1 < d.length := by omega
          have g2 : d[(((i - 1 : Nat) : Int)).toNat]? = some d[i - 1] := by rw [Int.toNat_natCast]; exact List.getElem?_eq_getElem hlt
          have hoc := ord_cmp (hf _ (List.getElem_mem hlt)) hfi
          cases hq2 : decide (cmpC d[i - 1] d[i] ≥ 0) with
          | true =>
            refine .inl ⟨7, by omega, fun R e0 e1 => ⟨?_, ?_⟩⟩
            · rw [L37_4]; simp only [d1, cond_true, d2, g1, F35_is hfi, hq, cond_false, d3, e1', d4, g2, F58_is, hq2]
            · rw [L14_4]; simp only [d1, cond_true, d2, g1, F36_is hfi, hq, cond_false, d3, e1', d4, g2, F39_is, hoc, hq2]
          | false =>
            rcases hrec with ⟨e, he, hr⟩ | ⟨hvv, hr⟩
            · refine .inl ⟨e, he, fun R e0 e1 => ⟨?_, ?_⟩⟩
              · rw [L37_4]; simp only [d1, cond_true, d2, g1, F35_is hfi, hq, cond_false, d3, e1', d4, g2, F58_is, hq2, e2]; exact (hr R e0 e1).1
              · rw [L14_4]; simp only [d1, cond_true, d2, g1, F36_is hfi, hq, cond_false, d3, e1', d4, g2, F39_is, hoc, hq2, e2]; exact (hr R e0 e1).2
            · refine .inr ⟨step hvv, fun R e0 e1 => ⟨?_, ?_⟩⟩
              · rw [L37_4]; simp only [d1, cond_true, d2, g1, F35_is hfi, hq, cond_false, d3, e1', d4, g2, F58_is, hq2, e2]; exact (hr R e0 e1).1
              · rw [L14_4]; simp only [d1, cond_true, d2, g1, F36_is hfi, hq, cond_false, d3, e1', d4, g2, F39_is, hoc, hq2, e2]; exact (hr R e0 e1).2
    · have d1 : decide ((i : Int) < (d.length : Int)) = false := by simp; omega
      refine .inr ⟨fun j c hj hjc => ?_, fun R e0 e1 => ⟨?_, ?_⟩⟩
      · rw [List.getElem?_eq_none (by omega)] at hjc; cases hjc
      · rw [L37_4]; simp only [d1, cond_false]
      · rw [L14_4]; simp only [d1, cond_false]
theorem log_gives (d : List G_Contact) (hf : ∀ c ∈ d, Fine c) (hl : d.length ≤ 1000) :
    ∃ e : Int, (e = 0 → ∀ c ∈ d, Valid c) ∧ (∀ (R : Type) (k : Int → Option R), F37 NN d k = k e) ∧ ∀ (R : Type) (k : Int → Option R), F14 NN d k = k e := by
  have d0 : decide ((d.length : Int) > 2000) = false := by simp; omega
  unfold F37 F37_ F14 F14_
  simp only [d0, cond_false]
  rcases logs_loop d hf hl NN 0 (by unfold NN; omega) (by omega) with ⟨e, he, hr⟩ | ⟨hv, hr⟩
  · exact ⟨e, fun h => absurd h he, fun R k => (hr R _ _).1, fun R k => (hr R _ _).2⟩
  · refine ⟨0, fun _ c hc => ?_, fun R k => (hr R _ _).1, fun R k => (hr R _ _).2⟩
    obtain ⟨j, hj⟩ := List.getElem?_of_mem hc
    exact hv j c (Nat.zero_le _) hj
end Go.Am
namespace Go.Am
open Go Go.Proofs
theorem setM_mem {A : Nat → Type} {T : Ty A} {k e : Nat} {x : A k} {y : A e} : ∀ {m : List (A k × A e)} {p : A k × A e}, p ∈ setM T k e x y m → p ∈ m ∨ p = (x, y)
  | [], p, h => by simp only [setM, List.mem_singleton] at h; exact .inr h
  | q :: qs, p, h => by
    simp only [setM] at h
    cases hb : eqDs (T.enc k x) (T.enc k q.1) with
    | true =>
      rw [hb] at h
      simp only [cond_true, List.mem_cons] at h
      rcases h with h | h
      · exact .inr h
      · exact .inl (by simp [h])
    | false =>
      rw [hb] at h
      simp only [cond_false, List.mem_cons] at h
      rcases h with h | h
      · exact .inl (by simp [h])
      · rcases setM_mem h with h | h
        · exact .inl (by simp [h])
        · exact .inr h
theorem getM_mem {A : Nat → Type} {T : Ty A} {k e : Nat} {x : A k} : ∀ {m : List (A k × A e)} {v : A e}, getM T k e x m = some v → ∃ p ∈ m, p.2 = v
  | [], v, h => by simp [getM] at h
  | q :: qs, v, h => by
    simp only [getM] at h
    cases hb : eqDs (T.enc k x) (T.enc k q.1) with
    | true => rw [hb] at h; simp only [cond_true, Option.some.injEq] at h; exact ⟨q, by simp, h⟩
    | false => rw [hb] at h; obtain ⟨p, h1, h2⟩ := getM_mem h; exact ⟨p, by simp [h1], h2⟩
theorem mset33_mem {x y : Int} {m : List (Int × Int)} {p : Int × Int} (h : p ∈ mset_3_3 x y m) : p ∈ m ∨ p = (x, y) := setM_mem (T := T) (k := 3) (e := 3) h
theorem mget33_le {x : Int} {m : List (Int × Int)} {B : Int} (hB : 0 ≤ B) (h : ∀ p ∈ m, 1 ≤ p.2 ∧ p.2 ≤ B) : 0 ≤ (mget_3_3 x m).getD 0 ∧ (mget_3_3 x m).getD 0 ≤ B := by
  cases hg : mget_3_3 x m with
  | none => simp only [Option.getD_none]; omega
  | some v =>
    have key : ∃ p : Int × Int, p ∈ m ∧ p.2 = v := getM_mem (T := T) (k := 3) (e := 3) hg
    obtain ⟨p, h1, h2⟩ := key
    have := h p h1
    simp only [Option.getD_some]
    omega
theorem ser1 (d : List G_Contact) (hv : ∀ c ∈ d, Valid c) (hl : d.length ≤ 1000) : ∀ (n i : Nat) (last : Int) (m : List (Int × Int)), d.length - i < n → i ≤ d.length → 0 ≤ last → last ≤ 99999 → (∀ p ∈ m, 1 ≤ p.2 ∧ p.2 ≤ (i : Int)) →
    ∃ last' m', 0 ≤ last' ∧ last' ≤ 99999 ∧ (∀ p ∈ m', 1 ≤ p.2 ∧ p.2 ≤ 1000) ∧ ∀ (R : Type) (e0 : Int → List (Int × Int) → Option R),
      L9_7 (@F37 NN) NN n last d (d.length : Int) (i : Int) m e0 = e0 last' m' ∧ L18_4 NN n last d (d.length : Int) (i : Int) m e0 = e0 last' m'
  | 0, i, last, m, h, _, _, _, _ => by omega
  | n + 1, i, last, m, h, hi, h1, h2, hm => by
    by_cases hc : i < d.length
    · have d1 : decide ((i : Int) < (d.length : Int)) = true := by simpa using hc
      have d2 : decide (0 ≤ (i : Int)) = true := by simp
      have g1 : d[((i : Int)).toNat]? = some d[i] := by rw [Int.toNat_natCast]; exact List.getElem?_eq_getElem hc
      have hvi := hv _ (List.getElem_mem hc)
      have e2 : IntKind.i64.wrap ((i : Int) + 1) = ((i + 1 : Nat) : Int) := by rw [wr (by omega) (by omega)]; omega
      obtain ⟨b1, b2⟩ := mget33_le (x := d[i].f_Sent) (B := (i : Int)) (by omega) hm
      have e3 : IntKind.i64.wrap ((mget_3_3 d[i].f_Sent m).getD 0 + 1) = (mget_3_3 d[i].f_Sent m).getD 0 + 1 := wr (by omega) (by omega)
      obtain ⟨last', m', a1, a2, a3, a4⟩ := ser1 d hv hl n (i + 1) (if d[i].f_Sent > last then d[i].f_Sent else last) (mset_3_3 d[i].f_Sent ((mget_3_3 d[i].f_Sent m).getD 0 + 1) m) (by omega) (by omega)
        (by have := hvi.sent; split <;> omega) (by have := hvi.sent; split <;> omega) (fun p hp => by
          rcases mset33_mem hp with h | h
          · have := hm p h; omega
          · rw [h]; simp only; omega)
      refine ⟨last', m', a1, a2, a3, fun R e0 => ⟨?_, ?_⟩⟩
      · rw [L9_7]; simp only [d1, cond_true, d2, g1, e2, e3]; exact (a4 R e0).1
      · rw [L18_4]; simp only [d1, cond_true, d2, g1, e2, e3]; exact (a4 R e0).2
    · have d1 : decide ((i : Int) < (d.length : Int)) = false := by simp; omega
      refine ⟨last, m, h1, h2, fun p hp => by have := hm p hp; omega, fun R e0 => ⟨?_, ?_⟩⟩
      · rw [L9_7]; simp only [d1, cond_false]
      · rw [L18_4]; simp only [d1, cond_false]
theorem ser2 (last : Int) (m : List (Int × Int)) (hm : ∀ p ∈ m, 1 ≤ p.2 ∧ p.2 ≤ 1000) (hl : last ≤ 99999) : ∀ (n : Nat) (v : Int) (rows : List G_Row) (tw : List Int), (last + 1 - v).toNat < n → 1 ≤ v → v ≤ last + 1 ∨ v = 1 → (rows.length : Int) ≤ v → (tw.length : Int) ≤ v →
    ∃ rows' tw', rows'.length ≤ 100001 ∧ tw'.length ≤ 100001 ∧ ∀ (R : Type) (e0 : List G_Row → List Int → Option R),
      L9_15 (@F37 NN) NN n last v m rows tw e0 = e0 rows' tw' ∧ L18_12 NN n last v m rows tw e0 = e0 rows' tw'
  | 0, v, rows, tw, h, _, _, _, _ => by omega
  | n + 1, v, rows, tw, h, h1, hv, hr, ht => by
    by_cases hc : v ≤ last
    · have d1 : decide (v ≤ last) = true := by simpa using hc
      have e1 : IntKind.i64.wrap (v + 1) = v + 1 := wr (by omega) (by omega)
      obtain ⟨b1, b2⟩ := mget33_le (x := v) (B := 1000) (by omega) hm
      have room1 : ∀ y : Int, decide ((tw.length + [y].length) * 8 ≤ roomBytes') = true := by intro y; simp [roomBytes']; omega
      have room2 : ∀ y : G_Row, decide ((rows.length + [y].length) * 16 ≤ roomBytes') = true := by intro y; simp [roomBytes']; omega
      by_cases c1 : (mget_3_3 v m).getD 0 > 1
      · have q1 : decide ((mget_3_3 v m).getD 0 > 1) = true := by simpa using c1
        obtain ⟨r, t, ir, it, ih⟩ := ser2 last m hm hl n (v + 1) rows (tw ++ [v]) (by omega) (by omega) (by omega) (by omega) (by simp; omega)
        refine ⟨r, t, ir, it, fun R e0 => ⟨?_, ?_⟩⟩
        · rw [L9_15]; simp only [d1, cond_true, q1, room1, e1]; exact (ih R e0).1
        · rw [L18_12]; simp only [d1, cond_true, q1, room1, e1]; exact (ih R e0).2
      · have q1 : decide ((mget_3_3 v m).getD 0 > 1) = false := by simpa using c1
        by_cases c2 : (mget_3_3 v m).getD 0 = 1
        · have q2 : ((mget_3_3 v m).getD 0 == 1) = true := by simpa using c2
          have q3 : ((mget_3_3 v m).getD 0 == 0) = false := by rw [c2]; rfl
          obtain ⟨r, t, ir, it, ih⟩ := ser2 last m hm hl n (v + 1) rows tw (by omega) (by omega) (by omega) (by omega) (by omega)
          have k1 : ∀ (R : Type) (e0 : List G_Row → List Int → Option R), L18_12 NN (n + 1) last v m rows tw e0 = L18_12 NN n last (v + 1) m rows tw e0 := by
            intro R e0
            rw [L18_12]
            simp only [d1, cond_true, q1, cond_false, q3, e1]
          refine ⟨r, t, ir, it, fun R e0 => ⟨?_, ?_⟩⟩
          · rw [L9_15]; simp only [d1, cond_true, q1, cond_false, q2, e1]; exact (ih R e0).1
          · rw [k1]; exact (ih R e0).2
        · have q2 : ((mget_3_3 v m).getD 0 == 1) = false := by simpa using c2
          have q3 : ((mget_3_3 v m).getD 0 == 0) = true := by rw [beq_iff_eq]; omega
          by_cases c3 : 0 < rows.length
          · have q4 : decide ((rows.length : Int) > 0) = true := by simpa using c3
            have e3 : IntKind.i64.wrap ((rows.length : Int) - 1) = ((rows.length - 1 : Nat) : Int) := by rw [wr (by omega) (by omega)]; omega
            have q5 : decide (((rows.length - 1 : Nat) : Int) ≥ 0) = true := by simp
            have q6 : (decide (0 ≤ ((rows.length - 1 : Nat) : Int)) && decide (((rows.length - 1 : Nat) : Int) < (rows.length : Int))) = true := by simp; omega
            have q6b : decide (((rows.length - 1 : Nat) : Int) < (rows.length : Int)) = true := by rw [decide_eq_true_eq]; omega
            have hlt : rows.length - 1 < rows.length := by omega
            have g1 : rows[(((rows.length - 1 : Nat) : Int)).toNat]? = some rows[rows.length - 1] := by rw [Int.toNat_natCast]; exact List.getElem?_eq_getElem hlt
            cases q7 : (rows[rows.length - 1].f_To == v) with
            | true =>
              obtain ⟨r, t, ir, it, ih⟩ := ser2 last m hm hl n (v + 1) (rows.set (((rows.length - 1 : Nat) : Int)).toNat ⟨rows[rows.length - 1].f_From, IntKind.i64.wrap (rows[rows.length - 1].f_To + 1)⟩) tw (by omega) (by omega) (by omega) (by simp; omega) (by omega)
              refine ⟨r, t, ir, it, fun R e0 => ⟨?_, ?_⟩⟩
              · rw [L9_15]; simp only [d1, cond_true, q1, cond_false, q2, q4, e3, q6, g1, q7, e1]; exact (ih R e0).1
              · rw [L18_12]; simp only [d1, cond_true, q1, cond_false, q3, e3, q5, q6b, Bool.true_and, g1, q7, e1]; exact (ih R e0).2
            | false =>
              obtain ⟨r, t, ir, it, ih⟩ := ser2 last m hm hl n (v + 1) (rows ++ [⟨v, v + 1⟩]) tw (by omega) (by omega) (by omega) (by simp; omega) (by omega)
              refine ⟨r, t, ir, it, fun R e0 => ⟨?_, ?_⟩⟩
              · rw [L9_15]; simp only [d1, cond_true, q1, cond_false, q2, q4, e3, q6, g1, q7, e1, room2]; exact (ih R e0).1
              · rw [L18_12]; simp only [d1, cond_true, q1, cond_false, q3, e3, q5, q6b, Bool.true_and, g1, q7, e1, room2]; exact (ih R e0).2
          · have q4 : decide ((rows.length : Int) > 0) = false := decide_eq_false (by omega)
            have h0 : rows.length = 0 := by omega
            have e3 : IntKind.i64.wrap ((rows.length : Int) - 1) = -1 := by rw [wr (by omega) (by omega)]; omega
            have q5 : decide ((-1 : Int) ≥ 0) = false := by decide
            obtain ⟨r, t, ir, it, ih⟩ := ser2 last m hm hl n (v + 1) (rows ++ [⟨v, v + 1⟩]) tw (by omega) (by omega) (by omega) (by simp; omega) (by omega)
            refine ⟨r, t, ir, it, fun R e0 => ⟨?_, ?_⟩⟩
            · rw [L9_15]; simp only [d1, cond_true, q1, cond_false, q2, q4, e1, room2]; exact (ih R e0).1
            · rw [L18_12]; simp only [d1, cond_true, q1, cond_false, q3, e3, q5, e1, room2]; exact (ih R e0).2
    · have d1 : decide (v ≤ last) = false := by simp; omega
      refine ⟨rows, tw, by omega, by omega, fun R e0 => ⟨?_, ?_⟩⟩
      · rw [L9_15]; simp only [d1, cond_false]
      · rw [L18_12]; simp only [d1, cond_false]
theorem serials_give (d : List G_Contact) (hv : ∀ c ∈ d, Valid c) (hl : d.length ≤ 1000) (hk : ∀ (R : Type) (k : Int → Option R), F37 NN d k = k 0) :
    ∃ r t, r.length ≤ 100001 ∧ t.length ≤ 100001 ∧ (∀ (R : Type) (k : List G_Row → List Int → Int → Option R), F9 NN d k = k r t 0) ∧ ∀ (R : Type) (k : List G_Row → List Int → Option R), F18 NN d k = k r t := by
  obtain ⟨last, m, a1, a2, a3, a4⟩ := ser1 d hv hl NN 0 0 [] (by unfold NN; omega) (by omega) (by omega) (by omega) (fun p h => by cases h)
  obtain ⟨r, t, ir, it, ih⟩ := ser2 last m a3 a2 NN 1 [] [] (by unfold NN; omega) (by omega) (.inr rfl) (by simp) (by simp)
  refine ⟨r, t, ir, it, fun R k => ?_, fun R k => ?_⟩
  · unfold F9 F9_
    have h1 : ∀ e0 : Int → List (Int × Int) → Option R, L9_7 (@F37 NN) NN NN 0 d (d.length : Int) 0 [] e0 = e0 last m := fun e0 => (a4 R e0).1
    have h2 : ∀ e0 : List G_Row → List Int → Option R, L9_15 (@F37 NN) NN NN last 1 m [] [] e0 = e0 r t := fun e0 => (ih R e0).1
    simp only [hk, bne_self_eq_false, cond_false, h1, h2]
  · unfold F18 F18_
    have h1 : ∀ e0 : Int → List (Int × Int) → Option R, L18_4 NN NN 0 d (d.length : Int) 0 [] e0 = e0 last m := fun e0 => (a4 R e0).2
    have h2 : ∀ e0 : List G_Row → List Int → Option R, L18_12 NN NN last 1 m [] [] e0 = e0 r t := fun e0 => (ih R e0).2
    simp only [h1, h2]
theorem ren_loop (fr : Int) (m : Nat) (h0 : 0 ≤ fr) (h1 : fr ≤ 99999) (hm : m ≤ 1000) : ∀ (n i : Nat) (l : List G_Contact), m - i < n → l.length = m →
    ∃ r : List G_Contact, r.length = m ∧ ∀ (R : Type) (e0 : List G_Contact → Option R), L10_8 (@F29 NN) (@F37 NN) (@F42 NN) NN n fr (m : Int) (i : Int) l e0 = e0 r ∧ L20_5 (@F29 NN) (@F47 NN) NN n fr (m : Int) (i : Int) l e0 = e0 r
  | 0, i, l, h, _ => by omega
  | n + 1, i, l, h, hl => by
    by_cases hc : i < m
    · have d1 : decide ((i : Int) < (m : Int)) = true := by simpa using hc
      have d2 : (decide (0 ≤ (i : Int)) && decide ((i : Int) < (l.length : Int))) = true := by simp; omega
      have hlt : i < l.length := by omega
      have g1 : l[((i : Int)).toNat]? = some l[i] := by rw [Int.toNat_natCast]; exact List.getElem?_eq_getElem hlt
      have e2 : IntKind.i64.wrap ((i : Int) + 1) = ((i + 1 : Nat) : Int) := by rw [wr (by omega) (by omega)]; omega
      obtain ⟨r, ir, ih⟩ := ren_loop fr m h0 h1 hm n (i + 1) (l.set ((i : Int)).toNat ⟨l[i].f_At, l[i].f_Mode, l[i].f_Band, l[i].f_Call, IntKind.i64.wrap (fr + (i : Int)), l[i].f_Heard, l[i].f_Gave, l[i].f_Got⟩) (by omega) (by simpa using hl)
      refine ⟨r, ir, fun R e0 => ⟨?_, ?_⟩⟩
      · rw [L10_8]; simp only [d1, cond_true, d2, g1, e2]; exact (ih R e0).1
      · rw [L20_5]; simp only [d1, cond_true, d2, g1, e2]; exact (ih R e0).2
    · have d1 : decide ((i : Int) < (m : Int)) = false := by simp; omega
      refine ⟨l, hl, fun R e0 => ⟨?_, ?_⟩⟩
      · rw [L10_8]; simp only [d1, cond_false]
      · rw [L20_5]; simp only [d1, cond_false]
theorem F29_is (d : List G_Contact) (hl : d.length ≤ 1000) (R : Type) (k : List G_Contact → Option R) : F29 NN d k = k d := by
  unfold F29 X_clone
  have : (decide (d.length * 96 ≤ 140737488355328) && decide (d.length ≤ maxLen)) = true := by
    have h1 : d.length ≤ maxLen := Nat.le_trans hl (by decide)
    simp only [Bool.and_eq_true, decide_eq_true_eq]
    exact ⟨by omega, h1⟩
  rw [this]
  rfl
theorem renumber_give (d : List G_Contact) (fr : Int) (h0 : 0 ≤ fr) (h1 : fr ≤ 99999) (hl : d.length ≤ 1000) (hk : ∀ (R : Type) (k : Int → Option R), F37 NN d k = k 0) :
    ∃ r e, r.length ≤ 1000 ∧ (∀ (R : Type) (k : List G_Contact → Int → Option R), F10 NN d fr k = k r e) ∧ ∀ (R : Type) (k : List G_Contact → Int → Option R), F20 NN d fr k = k r e := by
  obtain ⟨r, ir, ih⟩ := ren_loop fr d.length h0 h1 hl NN 0 d (by unfold NN; omega) rfl
  unfold F10 F10_ F20 F20_
  simp only [hk, bne_self_eq_false, cond_false, F42_is, F47_is]
  cases inB fr 1 99999 with
  | false => exact ⟨[], 1, by simp, fun R k => rfl, fun R k => rfl⟩
  | true =>
    cases hq : decide (IntKind.i64.wrap (IntKind.i64.wrap (fr + (d.length : Int)) - 1) > 99999) with
    | true => exact ⟨[], 1, by simp, fun R k => by simp [hq], fun R k => by simp [hq]⟩
    | false =>
      refine ⟨r, 0, by omega, fun R k => ?_, fun R k => ?_⟩
      · have h1 : ∀ e0 : List G_Contact → Option R, L10_8 (@F29 NN) (@F37 NN) (@F42 NN) NN NN fr (d.length : Int) 0 d e0 = e0 r := fun e0 => (ih R e0).1
        simp only [Bool.not_true, cond_false, hq, F29_is d hl, h1]
      · have h1 : ∀ e0 : List G_Contact → Option R, L20_5 (@F29 NN) (@F47 NN) NN NN fr (d.length : Int) 0 d e0 = e0 r := fun e0 => (ih R e0).2
        simp only [Bool.not_true, cond_false, hq, F29_is d hl, h1]
end Go.Am
