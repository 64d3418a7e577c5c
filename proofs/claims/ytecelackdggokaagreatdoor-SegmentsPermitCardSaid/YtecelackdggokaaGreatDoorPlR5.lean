/- The plain law, in Lean alone: R5. No condition: lemmas for the claim. -/
import Derived.Test.YtecelackdggokaaGreatDoorPlR4
set_option linter.unusedVariables false
set_option linter.unusedSectionVars false
set_option linter.unusedSimpArgs false
set_option maxRecDepth 100000
namespace Go.Am
open Go Go.Proofs
variable [Fuel]
theorem Stream_Segments_modes : ∀ (j n : Nat) (m : Int) (b : Int) (s : G_Stream) (ms : List Int), m + (j : Int) = 4 → 1 ≤ m → j < n → SOk b s → b + (j : Int) ≤ 1000000 → ms.length + j ≤ 10 →
    ∃ (ms' : List Int) (s' : G_Stream), SOk (b + (j : Int)) s' ∧ ms'.length ≤ ms.length + j ∧ ∀ (R : Type) (v90 : List UInt8) (v92 v93 : Int) (v95 : List (List UInt8)) (v96 : List G_Segment) (v97 : List UInt8) (v98 v99 v100 v101 : Int) (e0 : List UInt8 → Int → Int → G_Stream → List (List UInt8) → List G_Segment → List UInt8 → Int → Int → Int → Int → List Int → Option R),
      Stream_Segments_L10 I_Stream_Segments n v90 m v92 v93 s v95 v96 v97 v98 v99 v100 v101 ms e0 = e0 v90 v92 v93 s' v95 v96 v97 v98 v99 v100 v101 ms'
  | _, 0, _, _, _, _, _, _, h, _, _, _ => by omega
  | 0, n + 1, m, b, s, ms, hm, h1, _, hs, hb, _ => ⟨ms, s, hs.mono (by omega), by omega, fun R v90 v92 v93 v95 v96 v97 v98 v99 v100 v101 e0 => by rw [Stream_Segments_L10, decide_eq_false (by omega)]; rfl⟩
  | j + 1, n + 1, m, b, s, ms, hm, h1, hn, hs, hb, hl => by
    obtain ⟨f, s1, z1, e1⟩ := Stream_Flip_gives hs 2 (by omega) (by omega)
    have hw : w64 (m + 1) = m + 1 := w64_eq (by omega) (by omega)
    cases f with
    | false =>
      obtain ⟨ms', s', g1, g2, g3⟩ := Stream_Segments_modes j n (m + 1) (b + 1) s1 ms (by omega) (by omega) (by omega) (z1.mono (by omega)) (by omega) (by omega)
      refine ⟨ms', s', g1.mono (by omega), by omega, fun R v90 v92 v93 v95 v96 v97 v98 v99 v100 v101 e0 => ?_⟩
      rw [Stream_Segments_L10, decide_eq_true (by omega)]
      simp only [I_Stream_Segments] at g3
      simp only [I_Stream_Segments, cond_true, e1, cond_false, hw, g3]
    | true =>
      obtain ⟨ms', s', g1, g2, g3⟩ := Stream_Segments_modes j n (m + 1) (b + 1) s1 (ms ++ [m]) (by omega) (by omega) (by omega) (z1.mono (by omega)) (by omega) (by simp; omega)
      refine ⟨ms', s', g1.mono (by omega), by simp at g2; omega, fun R v90 v92 v93 v95 v96 v97 v98 v99 v100 v101 e0 => ?_⟩
      rw [Stream_Segments_L10, decide_eq_true (by omega)]
      simp only [I_Stream_Segments] at g3
      simp only [I_Stream_Segments, cond_true, e1, hw, room1 ms m 8 (show ms.length ≤ 1000000 by omega) (by omega), g3]
def clsL : List (List UInt8) := [[102, 117, 108, 108], [102, 117, 108, 108], [102, 117, 108, 108], [115, 109, 97, 108, 108]]
theorem Stream_Segments_round (n i : Nat) (c : List UInt8) (hi : clsL[i]? = some c) (hc : c ∈ classL) (b : Int) (s : G_Stream) (out : List G_Segment) (hs : SOk b s) (hb : b ≤ 900000) (hf : ∀ x ∈ out, FineG x) (hl : out.length ≤ 10) :
    ∃ (out' : List G_Segment) (s' : G_Stream), SOk (b + 40) s' ∧ out'.length ≤ out.length + 1 ∧ (∀ x ∈ out', FineG x) ∧ ∀ (R : Type) (e0 : G_Stream → List G_Segment → Option R), Stream_Segments_L3 I_Stream_Segments (n + 1) (4 : Int) (i : Int) s clsL out e0 = Stream_Segments_L3 I_Stream_Segments n (4 : Int) ((i + 1 : Nat) : Int) s' clsL out' e0 := by
  have hi4 : i < 4 := by
    rcases Nat.lt_or_ge i 4 with h | h
    · exact h
    · rw [List.getElem?_eq_none (by simpa [clsL] using h)] at hi; cases hi
  have w1 : w64 ((i : Int) + 1) = ((i + 1 : Nat) : Int) := w64_succ (by omega)
  have hin : ∀ {R : Type} (k : Option R), inr clsL (i : Int) k = k := fun k => inr_nat (by simpa [clsL] using hi4) k
  have hat : ∀ {R : Type} (k : List UInt8 → Option R), at_ clsL (i : Int) k = k c := fun k => at_nat hi k
  have rm : ∀ x : G_Segment, decide ((out.length + [x].length) * 72 ≤ roomBytes') = true := fun x => room1 out x 72 (by omega) (by omega)
  obtain ⟨f, s1, z1, e1⟩ := Stream_Flip_gives hs 5 (by omega) (by omega)
  cases f with
  | true =>
    refine ⟨out, s1, z1.mono (by omega), by omega, hf, fun R e0 => ?_⟩
    rw [Stream_Segments_L3, decide_eq_true (by omega)]
    simp only [I_Stream_Segments, cond_true, hin, hat, e1, w1]
  | false =>
    obtain ⟨lo, s2, _, z2, e2⟩ := Stream_Pick_gives z1 [0, 100, 150, 200] (by omega) (by simp) (by simp)
    obtain ⟨fr, s3, _, z3, e3⟩ := Stream_Pick_gives z2 [0, 0, 50] (by omega) (by simp) (by simp)
    obtain ⟨hi, s4, _, z4, e4⟩ := Stream_Pick_gives z3 [20, 50, 100] (by omega) (by simp) (by simp)
    obtain ⟨to, s5, _, z5, e5⟩ := Stream_Pick_gives z4 [50, 1000] (by omega) (by simp) (by simp)
    obtain ⟨ms, s6, z6, hms, e6⟩ := Stream_Segments_modes 3 NN 1 (b + 1 + 1 + 1 + 1 + 1) s5 [] (by omega) (by omega) (by have := NN_ok; omega) z5 (by omega) (by simp)
    have hms' : ms.length ≤ 3 := by simpa using hms
    have e6' : ∀ (R : Type) (v90 : List UInt8) (v92 v93 : Int) (v95 : List (List UInt8)) (v96 : List G_Segment) (v97 : List UInt8) (v98 v99 v100 v101 : Int) (e0 : List UInt8 → Int → Int → G_Stream → List (List UInt8) → List G_Segment → List UInt8 → Int → Int → Int → Int → List Int → Option R),
      Stream_Segments_L10 I_Stream_Segments I_Stream_Segments.N v90 1 v92 v93 s5 v95 v96 v97 v98 v99 v100 v101 [] e0 = e0 v90 v92 v93 s6 v95 v96 v97 v98 v99 v100 v101 ms := e6
    simp only [I_Stream_Segments] at e6'
    have hstart : ∀ (R : Type) (e0 : G_Stream → List G_Segment → Option R), Stream_Segments_L3 I_Stream_Segments (n + 1) (4 : Int) (i : Int) s clsL out e0 = Stream_Segments_L3 I_Stream_Segments (n + 1) (4 : Int) (i : Int) s clsL out e0 := fun R e0 => rfl
    cases ms with
    | nil =>
      obtain ⟨f2, s7, z7, e7⟩ := Stream_Flip_gives z6 50 (by omega) (by omega)
      cases f2 with
      | false =>
        refine ⟨out ++ [⟨c, lo, w64 (lo + hi), [1], ⟨fr, w64 (fr + to)⟩⟩], s7, z7.mono (by omega), by simp, fun x hx => ?_, fun R e0 => ?_⟩
        · rcases List.mem_append.1 hx with hx | hx
          · exact hf x hx
          · simp at hx; rw [hx]; exact ⟨hc, by show ([1] : List Int).length ≤ 1000; simp⟩
        · rw [hstart]; simp only [Stream_Segments_L3, I_Stream_Segments, decide_eq_true (show (i : Int) < 4 by omega), hin, hat, e1, e2, e3, e4, e5, e6', w1, show ((([] : List Int).length : Int) == 0) = true from rfl, cond_true, cond_false, e7, rm]
      | true =>
        obtain ⟨r, s8, r1, r2, z8, e8⟩ := Stream_Next_gives z7 4 (by omega) (by omega)
        have r3 := r2 (by omega)
        by_cases h0 : r = 0
        · obtain ⟨cl, s9, hcl, z9, e9⟩ := Stream_Some_gives z8 [c, [], [65]] (by omega) (by simp) (by simp)
          obtain ⟨x1, t1, x11, x12, y1, f1⟩ := Stream_Odd_gives z9 0 300 (by omega) (by omega) (by omega) (by omega) (by omega)
          refine ⟨out ++ [⟨cl, x1, w64 (lo + hi), [1], ⟨fr, w64 (fr + to)⟩⟩], t1, y1.mono (by omega), by simp, fun x hx => ?_, fun R e0 => ?_⟩
          · rcases List.mem_append.1 hx with hx | hx
            · exact hf x hx
            · simp at hx; rw [hx]
              refine ⟨?_, by show ([1] : List Int).length ≤ 1000; simp⟩
              simp only [List.mem_cons, List.not_mem_nil, or_false] at hcl
              rcases hcl with rfl | rfl | rfl
              · exact hc
              · simp [classL]
              · simp [classL]
          · rw [hstart]; simp only [Stream_Segments_L3, I_Stream_Segments, decide_eq_true (show (i : Int) < 4 by omega), hin, hat, e1, e2, e3, e4, e5, e6', w1, show ((([] : List Int).length : Int) == 0) = true from rfl, cond_true, cond_false, e7, e8, h0, beq_self_eq_true, e9, f1, rm]
        · by_cases h1 : r = 1
          · obtain ⟨x1, t1, x11, x12, y1, f1⟩ := Stream_Odd_gives z8 1 30000000000 (by omega) (by omega) (by omega) (by omega) (by omega)
            refine ⟨out ++ [⟨c, lo, x1, [1], ⟨fr, w64 (fr + to)⟩⟩], t1, y1.mono (by omega), by simp, fun x hx => ?_, fun R e0 => ?_⟩
            · rcases List.mem_append.1 hx with hx | hx
              · exact hf x hx
              · simp at hx; rw [hx]; exact ⟨hc, by show ([1] : List Int).length ≤ 1000; simp⟩
            · rw [hstart]; simp only [Stream_Segments_L3, I_Stream_Segments, decide_eq_true (show (i : Int) < 4 by omega), hin, hat, e1, e2, e3, e4, e5, e6', w1, show ((([] : List Int).length : Int) == 0) = true from rfl, cond_true, cond_false, e7, e8, h1, show ((1 : Int) == 0) = false from rfl, beq_self_eq_true, f1, rm]
          · by_cases h2 : r = 2
            · obtain ⟨md, s9, hmd, z9, e9⟩ := Stream_Pick_gives z8 [0, 1, 3, 4] (by omega) (by simp) (by simp)
              have rms : decide ((([1] : List Int).length + [md].length) * 8 ≤ roomBytes') = true := room1 _ md 8 (by show ([1] : List Int).length ≤ 1000000; simp) (by omega)
              refine ⟨out ++ [⟨c, lo, w64 (lo + hi), [1] ++ [md], ⟨fr, w64 (fr + to)⟩⟩], s9, z9.mono (by omega), by simp, fun x hx => ?_, fun R e0 => ?_⟩
              · rcases List.mem_append.1 hx with hx | hx
                · exact hf x hx
                · simp at hx; rw [hx]; exact ⟨hc, by show (([1] : List Int) ++ [md]).length ≤ 1000; simp⟩
              · rw [hstart]; simp only [Stream_Segments_L3, I_Stream_Segments, decide_eq_true (show (i : Int) < 4 by omega), hin, hat, e1, e2, e3, e4, e5, e6', w1, show ((([] : List Int).length : Int) == 0) = true from rfl, cond_true, cond_false, e7, e8, h2, show ((2 : Int) == 0) = false from rfl, show ((2 : Int) == 1) = false from rfl, beq_self_eq_true, e9, rm]
                exact congrArg (fun b : Bool => bif b then _ else none) rms
            · obtain ⟨x1, t1, x11, x12, y1, f1⟩ := Stream_Odd_gives z8 0 100 (by omega) (by omega) (by omega) (by omega) (by omega)
              obtain ⟨x2, t2, x21, x22, y2, f2⟩ := Stream_Odd_gives y1 1 345686400000 (by omega) (by omega) (by omega) (by omega) (by omega)
              refine ⟨out ++ [⟨c, lo, w64 (lo + hi), [1], ⟨x1, x2⟩⟩], t2, y2.mono (by omega), by simp, fun x hx => ?_, fun R e0 => ?_⟩
              · rcases List.mem_append.1 hx with hx | hx
                · exact hf x hx
                · simp at hx; rw [hx]; exact ⟨hc, by show ([1] : List Int).length ≤ 1000; simp⟩
              · rw [hstart]; simp only [Stream_Segments_L3, I_Stream_Segments, decide_eq_true (show (i : Int) < 4 by omega), hin, hat, e1, e2, e3, e4, e5, e6', w1, show ((([] : List Int).length : Int) == 0) = true from rfl, cond_true, cond_false, e7, e8, show (r == 0) = false by simp [h0], show (r == 1) = false by simp [h1], show (r == 2) = false by simp [h2], f1, f2, rm]
    | cons m0 mt =>
      obtain ⟨f2, s7, z7, e7⟩ := Stream_Flip_gives z6 50 (by omega) (by omega)
      cases f2 with
      | false =>
        refine ⟨out ++ [⟨c, lo, w64 (lo + hi), (m0 :: mt), ⟨fr, w64 (fr + to)⟩⟩], s7, z7.mono (by omega), by simp, fun x hx => ?_, fun R e0 => ?_⟩
        · rcases List.mem_append.1 hx with hx | hx
          · exact hf x hx
          · simp at hx; rw [hx]; exact ⟨hc, by show (m0 :: mt).length ≤ 1000; omega⟩
        · rw [hstart]; simp only [Stream_Segments_L3, I_Stream_Segments, decide_eq_true (show (i : Int) < 4 by omega), hin, hat, e1, e2, e3, e4, e5, e6', w1, show (((m0 :: mt).length : Int) == 0) = false by simp <;> omega, cond_true, cond_false, e7, rm]
      | true =>
        obtain ⟨r, s8, r1, r2, z8, e8⟩ := Stream_Next_gives z7 4 (by omega) (by omega)
        have r3 := r2 (by omega)
        by_cases h0 : r = 0
        · obtain ⟨cl, s9, hcl, z9, e9⟩ := Stream_Some_gives z8 [c, [], [65]] (by omega) (by simp) (by simp)
          obtain ⟨x1, t1, x11, x12, y1, f1⟩ := Stream_Odd_gives z9 0 300 (by omega) (by omega) (by omega) (by omega) (by omega)
          refine ⟨out ++ [⟨cl, x1, w64 (lo + hi), (m0 :: mt), ⟨fr, w64 (fr + to)⟩⟩], t1, y1.mono (by omega), by simp, fun x hx => ?_, fun R e0 => ?_⟩
          · rcases List.mem_append.1 hx with hx | hx
            · exact hf x hx
            · simp at hx; rw [hx]
              refine ⟨?_, by show (m0 :: mt).length ≤ 1000; omega⟩
              simp only [List.mem_cons, List.not_mem_nil, or_false] at hcl
              rcases hcl with rfl | rfl | rfl
              · exact hc
              · simp [classL]
              · simp [classL]
          · rw [hstart]; simp only [Stream_Segments_L3, I_Stream_Segments, decide_eq_true (show (i : Int) < 4 by omega), hin, hat, e1, e2, e3, e4, e5, e6', w1, show (((m0 :: mt).length : Int) == 0) = false by simp <;> omega, cond_true, cond_false, e7, e8, h0, beq_self_eq_true, e9, f1, rm]
        · by_cases h1 : r = 1
          · obtain ⟨x1, t1, x11, x12, y1, f1⟩ := Stream_Odd_gives z8 1 30000000000 (by omega) (by omega) (by omega) (by omega) (by omega)
            refine ⟨out ++ [⟨c, lo, x1, (m0 :: mt), ⟨fr, w64 (fr + to)⟩⟩], t1, y1.mono (by omega), by simp, fun x hx => ?_, fun R e0 => ?_⟩
            · rcases List.mem_append.1 hx with hx | hx
              · exact hf x hx
              · simp at hx; rw [hx]; exact ⟨hc, by show (m0 :: mt).length ≤ 1000; omega⟩
            · rw [hstart]; simp only [Stream_Segments_L3, I_Stream_Segments, decide_eq_true (show (i : Int) < 4 by omega), hin, hat, e1, e2, e3, e4, e5, e6', w1, show (((m0 :: mt).length : Int) == 0) = false by simp <;> omega, cond_true, cond_false, e7, e8, h1, show ((1 : Int) == 0) = false from rfl, beq_self_eq_true, f1, rm]
          · by_cases h2 : r = 2
            · obtain ⟨md, s9, hmd, z9, e9⟩ := Stream_Pick_gives z8 [0, 1, 3, 4] (by omega) (by simp) (by simp)
              have rms : decide ((((m0 :: mt) : List Int).length + [md].length) * 8 ≤ roomBytes') = true := room1 _ md 8 (by show (m0 :: mt).length ≤ 1000000; omega) (by omega)
              refine ⟨out ++ [⟨c, lo, w64 (lo + hi), (m0 :: mt) ++ [md], ⟨fr, w64 (fr + to)⟩⟩], s9, z9.mono (by omega), by simp, fun x hx => ?_, fun R e0 => ?_⟩
              · rcases List.mem_append.1 hx with hx | hx
                · exact hf x hx
                · simp at hx; rw [hx]; exact ⟨hc, by show ((m0 :: mt) ++ [md]).length ≤ 1000; simp only [List.length_append, List.length_singleton]; omega⟩
              · rw [hstart]; simp only [Stream_Segments_L3, I_Stream_Segments, decide_eq_true (show (i : Int) < 4 by omega), hin, hat, e1, e2, e3, e4, e5, e6', w1, show (((m0 :: mt).length : Int) == 0) = false by simp <;> omega, cond_true, cond_false, e7, e8, h2, show ((2 : Int) == 0) = false from rfl, show ((2 : Int) == 1) = false from rfl, beq_self_eq_true, e9, rms, rm]
            · obtain ⟨x1, t1, x11, x12, y1, f1⟩ := Stream_Odd_gives z8 0 100 (by omega) (by omega) (by omega) (by omega) (by omega)
              obtain ⟨x2, t2, x21, x22, y2, f2⟩ := Stream_Odd_gives y1 1 345686400000 (by omega) (by omega) (by omega) (by omega) (by omega)
              refine ⟨out ++ [⟨c, lo, w64 (lo + hi), (m0 :: mt), ⟨x1, x2⟩⟩], t2, y2.mono (by omega), by simp, fun x hx => ?_, fun R e0 => ?_⟩
              · rcases List.mem_append.1 hx with hx | hx
                · exact hf x hx
                · simp at hx; rw [hx]; exact ⟨hc, by show (m0 :: mt).length ≤ 1000; omega⟩
              · rw [hstart]; simp only [Stream_Segments_L3, I_Stream_Segments, decide_eq_true (show (i : Int) < 4 by omega), hin, hat, e1, e2, e3, e4, e5, e6', w1, show (((m0 :: mt).length : Int) == 0) = false by simp <;> omega, cond_true, cond_false, e7, e8, show (r == 0) = false by simp [h0], show (r == 1) = false by simp [h1], show (r == 2) = false by simp [h2], f1, f2, rm]
theorem Stream_Segments_1_loop (n : Nat) (b : Int) (s : G_Stream) (hs : SOk b s) (hb : b ≤ 100000) (hn : 10 ≤ n) :
    ∃ (out' : List G_Segment) (s' : G_Stream), SOk (b + 160) s' ∧ out'.length ≤ 4 ∧ (∀ x ∈ out', FineG x) ∧ ∀ (R : Type) (e0 : G_Stream → List G_Segment → Option R), Stream_Segments_L3 I_Stream_Segments n (4 : Int) 0 s clsL [] e0 = e0 s' out' := by
  obtain ⟨n, rfl⟩ : ∃ q, n = q + 1 + 1 + 1 + 1 + 1 := ⟨n - 5, by omega⟩
  obtain ⟨o1, s1, z1, l1, f1, e1⟩ := Stream_Segments_round (n + 1 + 1 + 1 + 1) 0 _ rfl (by simp [classL]) b s [] hs (by omega) (fun x h => by cases h) (by simp)
  obtain ⟨o2, s2, z2, l2, f2, e2⟩ := Stream_Segments_round (n + 1 + 1 + 1) 1 _ rfl (by simp [classL]) _ s1 o1 z1 (by omega) f1 (by simp at l1; omega)
  obtain ⟨o3, s3, z3, l3, f3, e3⟩ := Stream_Segments_round (n + 1 + 1) 2 _ rfl (by simp [classL]) _ s2 o2 z2 (by omega) f2 (by simp at l1; omega)
  obtain ⟨o4, s4, z4, l4, f4, e4⟩ := Stream_Segments_round (n + 1) 3 _ rfl (by simp [classL]) _ s3 o3 z3 (by omega) f3 (by simp at l1; omega)
  refine ⟨o4, s4, z4.mono (by omega), by simp at l1; omega, f4, fun R e0 => ?_⟩
  have e1' : ∀ e0 : G_Stream → List G_Segment → Option R, Stream_Segments_L3 I_Stream_Segments (n + 1 + 1 + 1 + 1 + 1) (4 : Int) 0 s clsL [] e0 = _ := fun e0 => e1 R e0
  rw [e1', e2, e3, e4, Stream_Segments_L3]
  rfl
theorem Stream_Segments_gives {b : Int} {s : G_Stream} (hs : SOk b s) (hb : b ≤ 100000) :
    ∃ (r : List G_Segment) (s' : G_Stream), SOk (b + 160) s' ∧ r.length ≤ 4 ∧ (∀ c ∈ r, FineG c) ∧ ∀ (R : Type) (k : List G_Segment → G_Stream → Option R), Stream_Segments s k = k r s' := by
  obtain ⟨r, s', g1, g2, g3, g4⟩ := Stream_Segments_1_loop NN b s hs hb (by have := NN_ok; omega)
  have g4' : ∀ (R : Type) (e0 : G_Stream → List G_Segment → Option R), Stream_Segments_L3 I_Stream_Segments I_Stream_Segments.N (([[102, 117, 108, 108], [102, 117, 108, 108], [102, 117, 108, 108], [115, 109, 97, 108, 108]] : List (List UInt8)).length : Int) 0 s [[102, 117, 108, 108], [102, 117, 108, 108], [102, 117, 108, 108], [115, 109, 97, 108, 108]] [] e0 = e0 s' r := g4
  refine ⟨sortI cmpG r, s', g1, by rw [sortI_length]; exact g2, fun c h => g3 c (sortI_mem.1 h), fun R k => ?_⟩
  have hsort : ∀ k : List G_Segment → Option R, slices_SortStableFunc__Segment_Stream_Segments_1 r k = k (sortI cmpG r) := fun k => by
    simp only [slices_SortStableFunc__Segment_Stream_Segments_1, slices_SortStableFunc__Segment_Stream_Segments_1_, I_slices_SortStableFunc__Segment_Stream_Segments_1, li_slices_stableCmpFunc__Segment_Stream_Segments_1]
    exact sSta_is cmpG (fun _ => True) (fun x y _ _ => Stream_Segments_1_is x y) r (fun _ _ => trivial) (by omega) (by have := NN_ok; omega) (by have := NN_ok; omega) _ (fun l a b R k => by rw [li_slices_insertionSortCmpFunc__Segment_Stream_Segments_1]) k
  refine Eq.trans (g4' R (fun e151 e152 => slices_SortStableFunc__Segment_Stream_Segments_1 e152 fun r153 => k r153 e151)) (hsort _)
end Go.Am
