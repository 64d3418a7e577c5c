/- The plain law, in Lean alone: M1, M2. No condition: lemmas for the claim. -/
import Derived.Test.YtnkoiigdcbjenaaGreatDoorPlD3
import Derived.Test.YtnkoiigdcbjenaaGreatDoorPlS1
set_option linter.unusedVariables false
set_option linter.unusedSectionVars false
set_option linter.unusedSimpArgs false
set_option maxRecDepth 100000
namespace Go.Am
open Go Go.Proofs
variable [Fuel]
def keysM : List (List UInt8) := [[101, 97, 115, 116], [110, 111, 114, 116, 104], [119, 101, 115, 116], [], [110, 111, 98, 111, 100, 121]]
def sqL : List (List UInt8) := [[106, 111, 54, 50], [107, 112], [107, 112, 50, 48], [107, 112, 50, 48, 108, 102], [122, 122], [107, 112, 50], [107, 112, 50, 48, 108, 102, 120], [75, 80], [114, 114, 57, 57, 120, 120], [97, 97], [115, 97]]
def locL : List (List UInt8) := [[107, 112, 50, 48, 108, 102], [107, 112, 50, 48, 97, 97], [107, 112, 50, 49, 120, 120], [106, 111, 54, 50, 113, 109], [97, 97, 48, 48, 97, 97], [107, 112, 50, 48], [107, 112, 50, 48, 108, 122]]
structure FineU (c : G_Club) : Prop where
  key : c.f_Key ∈ keysM
  sq : ∀ q ∈ c.f_Squares, q ∈ sqL
  len : c.f_Squares.length ≤ 10
structure FineM (m : G_Member) : Prop where
  call : m.f_Call ∈ callsL
  club : m.f_Club ∈ keysM
  day : Mid m.f_Day
  loc : m.f_Locator ∈ locL
theorem clubs_L8 (qs : List (List UInt8)) (hq : ∀ q ∈ qs, q ∈ sqL) (hl : qs.length ≤ 10) (a b' : Int) (cs : List (List UInt8)) (cl : List G_Club) (ck : List UInt8) : ∀ (xs : List (List UInt8)) (n j : Nat) (s : G_Stream) (out : List (List UInt8)) (b : Int), qs.drop j = xs → j ≤ qs.length → xs.length < n → SOk (b + (j : Int)) s → b ≤ 1000000 → out.length ≤ j → (∀ q ∈ out, q ∈ sqL) →
    ∃ (r : List (List UInt8)) (s' : G_Stream), SOk (b + (qs.length : Int)) s' ∧ r.length ≤ qs.length ∧ (∀ q ∈ r, q ∈ sqL) ∧ ∀ (R : Type) (e0 : Int → Int → G_Stream → List (List UInt8) → List G_Club → List UInt8 → List (List UInt8) → Option R), Stream_RightClubs_L8 I_Stream_RightClubs n a b' (qs.length : Int) (j : Int) s cs cl ck qs out e0 = e0 a b' s' cs cl ck r
  | _, 0, _, _, _, _, _, _, h, _, _, _, _ => by omega
  | [], n + 1, j, s, out, b, h, hj, _, hs, hb, ho, hf => by
    refine ⟨out, s, hs.mono (by omega), by omega, hf, fun R e0 => ?_⟩
    rw [Stream_RightClubs_L8, ge_drop h]; rfl
  | x :: xs, n + 1, j, s, out, b, h, hj, hn, hs, hb, ho, hf => by
    have h' := drop_cons h
    obtain ⟨f, s1, z1, e1⟩ := Stream_Flip_gives hs 3 (by omega) (by omega)
    cases f with
    | true =>
      obtain ⟨r, s', g1, g2, g3, g4⟩ := clubs_L8 qs hq hl a b' cs cl ck xs n (j + 1) s1 (out ++ [x]) b h'.2.2.1 (by omega) (by simp at hn; omega) (z1.mono (by omega)) hb (by simp; omega) (fun q hq' => by
        rcases List.mem_append.1 hq' with h1 | h1
        · exact hf q h1
        · simp at h1; rw [h1]; exact hq x (mem_drop h))
      refine ⟨r, s', g1, g2, g3, fun R e0 => ?_⟩
      have g4' := g4 R e0
      simp only [I_Stream_RightClubs] at g4'
      rw [Stream_RightClubs_L8, lt_drop h]
      simp only [cond_true, inr_drop h, at_drop h, I_Stream_RightClubs, e1, room1 out x 16 (show out.length ≤ 1000000 by omega) (by omega), w64_succ (show j < 4611686018427387904 by omega), g4']
    | false =>
      obtain ⟨r, s', g1, g2, g3, g4⟩ := clubs_L8 qs hq hl a b' cs cl ck xs n (j + 1) s1 out b h'.2.2.1 (by omega) (by simp at hn; omega) (z1.mono (by omega)) hb (by omega) hf
      refine ⟨r, s', g1, g2, g3, fun R e0 => ?_⟩
      have g4' := g4 R e0
      simp only [I_Stream_RightClubs] at g4'
      rw [Stream_RightClubs_L8, lt_drop h]
      simp only [cond_true, cond_false, inr_drop h, at_drop h, I_Stream_RightClubs, e1, w64_succ (show j < 4611686018427387904 by omega), g4']
def qs4 : List (List UInt8) := [[106, 111, 54, 50], [107, 112], [107, 112, 50, 48], [107, 112, 50, 48, 108, 102]]
theorem clubs_L3 (ks : List (List UInt8)) (hk : ∀ q ∈ ks, q ∈ keysM) (hl : ks.length ≤ 10) : ∀ (xs : List (List UInt8)) (n i : Nat) (s : G_Stream) (out : List G_Club) (b : Int), ks.drop i = xs → i ≤ ks.length → xs.length < n → SOk (b + 10 * (i : Int)) s → b ≤ 100000 → out.length ≤ i → (∀ q ∈ out, FineU q ∧ q.f_Squares.length ≤ 4) →
    ∃ (r : List G_Club) (s' : G_Stream), SOk (b + 10 * (ks.length : Int)) s' ∧ r.length ≤ ks.length ∧ (∀ q ∈ r, FineU q ∧ q.f_Squares.length ≤ 4) ∧ ∀ (R : Type) (e0 : G_Stream → List G_Club → Option R), Stream_RightClubs_L3 I_Stream_RightClubs n (ks.length : Int) (i : Int) s ks out e0 = e0 s' r
  | _, 0, _, _, _, _, _, _, h, _, _, _, _ => by omega
  | [], n + 1, i, s, out, b, h, hi, _, hs, hb, ho, hf => by
    refine ⟨out, s, hs.mono (by omega), by omega, hf, fun R e0 => ?_⟩
    rw [Stream_RightClubs_L3, ge_drop h]; rfl
  | x :: xs, n + 1, i, s, out, b, h, hi, hn, hs, hb, ho, hf => by
    have h' := drop_cons h
    obtain ⟨f, s1, z1, e1⟩ := Stream_Flip_gives hs 6 (by omega) (by omega)
    cases f with
    | true =>
      obtain ⟨r, s', g1, g2, g3, g4⟩ := clubs_L3 ks hk hl xs n (i + 1) s1 out b h'.2.2.1 (by omega) (by simp at hn; omega) (z1.mono (by omega)) hb (by omega) hf
      refine ⟨r, s', g1, g2, g3, fun R e0 => ?_⟩
      have g4' := g4 R e0
      simp only [I_Stream_RightClubs] at g4'
      rw [Stream_RightClubs_L3, lt_drop h]
      simp only [cond_true, inr_drop h, at_drop h, I_Stream_RightClubs, e1, w64_succ (show i < 4611686018427387904 by omega), g4']
    | false =>
      obtain ⟨q, s2, z2, q2, q3, e2⟩ := clubs_L8 qs4 (by decide) (by decide) (ks.length : Int) (i : Int) ks out x qs4 NN 0 s1 [] (b + 10 * (i : Int) + 1) rfl (by decide) (by have := NN_ok; show 4 < NN; omega) (z1.mono (by omega)) (by omega) (by simp) (fun q h => by cases h)
      have hlen4 : (qs4.length : Int) = 4 := rfl
      have hq4 : qs4.length = 4 := rfl
      obtain ⟨r, s', g1, g2, g3, g4⟩ := clubs_L3 ks hk hl xs n (i + 1) s2 (out ++ [⟨x, q⟩]) b h'.2.2.1 (by omega) (by simp at hn; omega) (z2.mono (by omega)) hb (by simp; omega) (fun c hc => by
        rcases List.mem_append.1 hc with h1 | h1
        · exact hf c h1
        · simp at h1; rw [h1]; exact ⟨⟨hk x (mem_drop h), q3, by simp only; omega⟩, by simp only; omega⟩)
      refine ⟨r, s', g1, g2, g3, fun R e0 => ?_⟩
      have g4' := g4 R e0
      have e2' := e2 R
      simp only [I_Stream_RightClubs] at g4' e2'
      rw [Stream_RightClubs_L3, lt_drop h]
      have z0 : ((0 : Nat) : Int) = 0 := rfl
      simp only [qs4, z0] at e2'
      simp only [cond_true, cond_false, inr_drop h, at_drop h, I_Stream_RightClubs, e1]
      refine (e2' _).trans ?_
      simp only [cond_true, room1 out _ 40 (show out.length ≤ 1000000 by omega) (by omega), w64_succ (show i < 4611686018427387904 by omega), g4']
theorem Stream_RightClubs_gives {b : Int} {s : G_Stream} (hs : SOk b s) (hb : b ≤ 100000) :
    ∃ (r : List G_Club) (s' : G_Stream), SOk (b + 30) s' ∧ r.length ≤ 3 ∧ (∀ c ∈ r, FineU c ∧ c.f_Squares.length ≤ 4) ∧ ∀ (R : Type) (k : List G_Club → G_Stream → Option R), Stream_RightClubs s k = k r s' := by
  obtain ⟨r, s', g1, g2, g3, g4⟩ := clubs_L3 [[101, 97, 115, 116], [110, 111, 114, 116, 104], [119, 101, 115, 116]] (by decide) (by simp) [[101, 97, 115, 116], [110, 111, 114, 116, 104], [119, 101, 115, 116]] NN 0 s [] b rfl (by omega) (by simp; have := NN_ok; omega) (hs.mono (by omega)) hb (by simp) (fun c h => by cases h)
  refine ⟨r, s', g1.mono (by simp), by simpa using g2, g3, fun R k => ?_⟩
  have g4' : ∀ (R : Type) (e0 : G_Stream → List G_Club → Option R), Stream_RightClubs_L3 I_Stream_RightClubs I_Stream_RightClubs.N ([[101, 97, 115, 116], [110, 111, 114, 116, 104], [119, 101, 115, 116]].length : Int) 0 s [[101, 97, 115, 116], [110, 111, 114, 116, 104], [119, 101, 115, 116]] [] e0 = e0 s' r := g4
  simp only [Stream_RightClubs, Stream_RightClubs_, g4']
theorem cloneS_is (l : List (List UInt8)) (hl : l.length ≤ 1000000) (R : Type) (k : List (List UInt8) → Option R) : slices_Clone__string l k = k l := by
  show X_clone 16 l k = _
  exact X_clone_is l hl (by omega) k
theorem Stream_ClubList_gives {b : Int} {s : G_Stream} (hs : SOk b s) (hb : b ≤ 100000) :
    ∃ (r : List G_Club) (s' : G_Stream), SOk (b + 40) s' ∧ r.length ≤ 3 ∧ (∀ c ∈ r, FineU c) ∧ ∀ (R : Type) (k : List G_Club → G_Stream → Option R), Stream_ClubList s k = k r s' := by
  obtain ⟨c, s1, z1, lc, hc, e1⟩ := Stream_RightClubs_gives hs hb
  by_cases h0 : 0 < c.length
  · have d0 : decide ((c.length : Int) > 0) = true := decide_eq_true (by omega)
    obtain ⟨f, s2, z2, e2⟩ := Stream_Flip_gives z1 12 (by omega) (by omega)
    cases f with
    | false => exact ⟨c, s2, z2.mono (by omega), lc, fun x hx => (hc x hx).1, fun R k => by simp only [Stream_ClubList, Stream_ClubList_, I_Stream_ClubList, e1, d0, cond_true, e2, cond_false]⟩
    | true =>
      obtain ⟨i, s3, i1, i2, z3, e3⟩ := Stream_Next_gives z2 (c.length : Int) (by omega) (by omega)
      obtain ⟨i, rfl⟩ : ∃ m : Nat, i = (m : Int) := ⟨i.toNat, by omega⟩
      have hi : i < c.length := by have := i2 (by omega); omega
      obtain ⟨hx, hx4⟩ := hc _ (List.getElem_mem hi)
      obtain ⟨kk, s4, hkk, z4, e4⟩ := Stream_Some_gives z3 [c[i].f_Key, [], [101, 97, 115, 116]] (by omega) (by simp) (by simp)
      obtain ⟨q, s5, hq, z5, e5⟩ := Stream_Some_gives z4 [[122, 122], [107, 112, 50], [107, 112, 50, 48, 108, 102, 120], [75, 80], [114, 114, 57, 57, 120, 120], [97, 97], [115, 97]] (by omega) (by simp) (by simp)
      have hkk' : kk ∈ keysM := by
        simp only [List.mem_cons, List.not_mem_nil, or_false] at hkk
        rcases hkk with h | h | h
        · rw [h]; exact hx.key
        · rw [h]; decide
        · rw [h]; decide
      have hq' : q ∈ sqL := sub_mem hq (by decide +kernel)
      have hlen := hx.len
      have g1 : c[i]? = some c[i] := List.getElem?_eq_getElem hi
      have g2 : ∀ y : G_Club, (c.set i y)[i]? = some y := fun y => by simp [hi]
      refine ⟨(c.set i ⟨kk, c[i].f_Squares⟩).set i ⟨kk, c[i].f_Squares ++ [q]⟩, s5, z5.mono (by omega), by simpa using lc, fun y hy => ?_, fun R k => ?_⟩
      · rcases mem_set' hy with hy | hy
        · rcases mem_set' hy with hy | hy
          · exact (hc y hy).1
          · rw [hy]; exact ⟨hkk', hx.sq, hx.len⟩
        · rw [hy]
          refine ⟨hkk', fun z hz => ?_, ?_⟩
          · rcases List.mem_append.1 hz with h1 | h1
            · exact hx.sq z h1
            · simp at h1; rw [h1]; exact hq'
          · simp only [List.length_append, List.length_singleton]; omega
      · simp only [Stream_ClubList, Stream_ClubList_, I_Stream_ClubList, e1, d0, cond_true, e2, e3, inr_nat hi, at_nat g1, e4, set_nat, at_nat (g2 _), cloneS_is _ (show c[i].f_Squares.length ≤ 1000000 by omega), e5, room1 c[i].f_Squares q 16 (by omega) (by omega)]
  · have d0 : decide ((c.length : Int) > 0) = false := decide_eq_false (by omega)
    exact ⟨c, s1, z1.mono (by omega), lc, fun x hx => (hc x hx).1, fun R k => by simp only [Stream_ClubList, Stream_ClubList_, I_Stream_ClubList, e1, d0, cond_false]⟩
end Go.Am
set_option linter.unusedVariables false
set_option linter.unusedSectionVars false
set_option linter.unusedSimpArgs false
set_option maxRecDepth 100000
namespace Go.Am
open Go Go.Proofs
variable [Fuel]
theorem members_L7 (c : List G_Club) (hc : ∀ x ∈ c, FineU x) (hcl : c.length ≤ 100) (call : List UInt8) (hcall : call ∈ callsL) (a b' : Int) (cs : List (List UInt8)) (m : Nat) (hm : m ≤ 10) : ∀ (r0 n i : Nat) (day : Int) (s : G_Stream) (out : List G_Member) (b : Int), i + r0 = m → r0 < n → SOk (b + 20 * (i : Int)) s → b ≤ 900000 → 0 ≤ day → day ≤ 10 + 3 * (i : Int) → out.length ≤ 1000 + i → (∀ q ∈ out, FineM q) →
    ∃ (r : List G_Member) (s' : G_Stream), SOk (b + 20 * (m : Int)) s' ∧ r.length = out.length + r0 ∧ (∀ q ∈ r, FineM q) ∧ ∀ (R : Type) (e0 : List G_Club → Int → Int → G_Stream → List (List UInt8) → List G_Member → Option R), Stream_Members_L7 I_Stream_Members n c call day a b' (m : Int) (i : Int) s cs out e0 = e0 c a b' s' cs r
  | _, 0, _, _, _, _, _, _, h, _, _, _, _, _, _ => by omega
  | 0, n + 1, i, day, s, out, b, h, _, hs, hb, h1, h2, ho, hf => by
    obtain rfl : i = m := by omega
    refine ⟨out, s, hs, rfl, hf, fun R e0 => ?_⟩
    rw [Stream_Members_L7, decide_eq_false (by omega)]; rfl
  | r0 + 1, n + 1, i, day, s, out, b, h, hn, hs, hb, h1, h2, ho, hf => by
    have step : ∃ (x : G_Member) (s' : G_Stream) (p : Int), FineM x ∧ 1 ≤ p ∧ p ≤ 3 ∧ SOk (b + 20 * ((i + 1 : Nat) : Int)) s' ∧ ∀ (R : Type) (e0 : List G_Club → Int → Int → G_Stream → List (List UInt8) → List G_Member → Option R),
        Stream_Members_L7 I_Stream_Members (n + 1) c call day a b' (m : Int) (i : Int) s cs out e0 = Stream_Members_L7 I_Stream_Members n c call (day + p) a b' (m : Int) ((i + 1 : Nat) : Int) s' cs (out ++ [x]) e0 := by
      obtain ⟨lc, s1, hlc, z1, e1⟩ := Stream_Some_gives hs [[107, 112, 50, 48, 108, 102], [107, 112, 50, 48, 97, 97], [107, 112, 50, 49, 120, 120], [106, 111, 54, 50, 113, 109], [97, 97, 48, 48, 97, 97]] (by omega) (by simp) (by simp)
      have hlc' : lc ∈ locL := sub_mem hlc (by decide +kernel)
      have hi : decide ((i : Int) < (m : Int)) = true := decide_eq_true (by omega)
      have wi := w64_succ (show i < 4611686018427387904 by omega)
      have clubk : ∃ (k : List UInt8) (s2 : G_Stream), k ∈ keysM ∧ SOk (b + 20 * (i : Int) + 4) s2 ∧
          ((decide ((c.length : Int) > 0) = false ∧ k = [] ∧ s2 = s1) ∨ (decide ((c.length : Int) > 0) = true ∧ k = [] ∧ ∀ (R : Type) (k : Bool → G_Stream → Option R), Stream_Flip s1 5 k = k true s2) ∨
           (decide ((c.length : Int) > 0) = true ∧ ∃ (s3 : G_Stream) (j : Nat) (x : G_Club), (∀ (R : Type) (k : Bool → G_Stream → Option R), Stream_Flip s1 5 k = k false s3) ∧ (∀ (R : Type) (k : Int → G_Stream → Option R), Stream_Next s3 (c.length : Int) k = k (j : Int) s2) ∧ c[j]? = some x ∧ k = x.f_Key)) := by
        by_cases h0 : 0 < c.length
        · have d0 : decide ((c.length : Int) > 0) = true := decide_eq_true (by omega)
          obtain ⟨f, s2, z2, e2⟩ := Stream_Flip_gives z1 5 (by omega) (by omega)
          cases f with
          | true => exact ⟨[], s2, by decide, z2.mono (by omega), .inr (.inl ⟨d0, rfl, e2⟩)⟩
          | false =>
            obtain ⟨j, s3, j1, j2, z3, e3⟩ := Stream_Next_gives z2 (c.length : Int) (by omega) (by omega)
            obtain ⟨j, rfl⟩ : ∃ q : Nat, j = (q : Int) := ⟨j.toNat, by omega⟩
            have hj : j < c.length := by have := j2 (by omega); omega
            exact ⟨c[j].f_Key, s3, (hc _ (List.getElem_mem hj)).key, z3.mono (by omega), .inr (.inr ⟨d0, s2, j, c[j], e2, e3, List.getElem?_eq_getElem hj, rfl⟩)⟩
        · have d0 : decide ((c.length : Int) > 0) = false := decide_eq_false (by omega)
          exact ⟨[], s1, by decide, z1.mono (by omega), .inl ⟨d0, rfl, rfl⟩⟩
      obtain ⟨k, s2, hk, z2, hcase⟩ := clubk
      obtain ⟨f, s3, z3, e3⟩ := Stream_Flip_gives z2 60 (by omega) (by omega)
      cases f with
      | false =>
        obtain ⟨p, s4, p1, p2, z4, e4⟩ := Stream_Range_gives z3 1 3 (by omega) (by omega) (by omega) (by omega) (by omega)
        refine ⟨⟨call, k, day, lc⟩, s4, p, ⟨hcall, hk, ⟨by simp only; omega, by simp only; omega⟩, hlc'⟩, p1, p2, z4.mono (by omega), fun R e0 => ?_⟩
        have wd : w64 (day + p) = day + p := w64_eq (by omega) (by omega)
        rw [Stream_Members_L7, hi, cond_true]
        rcases hcase with ⟨d0, g1, g2⟩ | ⟨d0, g1, e2⟩ | ⟨d0, sa, j, y, e2, ea, ej, g1⟩
        · subst g1 g2
          simp only [I_Stream_Members, e1, wi, d0, cond_false, e3, room1 out _ 56 (show out.length ≤ 1000000 by omega) (by omega), cond_true, e4, wd]
        · subst g1
          simp only [I_Stream_Members, e1, wi, d0, e2, Bool.not_true, cond_false, e3, room1 out _ 56 (show out.length ≤ 1000000 by omega) (by omega), cond_true, e4, wd]
        · subst g1
          simp only [I_Stream_Members, e1, wi, d0, e2, Bool.not_false, ea, get_nat ej, cond_false, e3, room1 out _ 56 (show out.length ≤ 1000000 by omega) (by omega), cond_true, e4, wd]
      | true =>
        obtain ⟨x1, t1, hx1, y1, f1⟩ := Stream_Some_gives z3 [call, [107, 49, 97, 98, 47, 52], []] (by omega) (by simp) (by simp)
        obtain ⟨x2, t2, hx2, y2, f2⟩ := Stream_Some_gives y1 [k, [110, 111, 98, 111, 100, 121]] (by omega) (by simp) (by simp)
        obtain ⟨x3, t3, x31, x32, y3, f3⟩ := Stream_Odd_gives y2 0 9 (by omega) (by omega) (by omega) (by omega) (by omega)
        obtain ⟨x4, t4, hx4, y4, f4⟩ := Stream_Some_gives y3 [[107, 112, 50, 48], [107, 112, 50, 48, 108, 122], [107, 112, 50, 48, 108, 102]] (by omega) (by simp) (by simp)
        obtain ⟨p, s4, p1, p2, z4, e4⟩ := Stream_Range_gives y4 1 3 (by omega) (by omega) (by omega) (by omega) (by omega)
        have h1' : x1 ∈ callsL := by
          simp only [List.mem_cons, List.not_mem_nil, or_false] at hx1
          rcases hx1 with h | h | h
          · rw [h]; exact hcall
          · rw [h]; decide
          · rw [h]; decide
        have h2' : x2 ∈ keysM := by
          simp only [List.mem_cons, List.not_mem_nil, or_false] at hx2
          rcases hx2 with h | h
          · rw [h]; exact hk
          · rw [h]; decide
        have h4' : x4 ∈ locL := sub_mem hx4 (by decide +kernel)
        refine ⟨⟨x1, x2, x3, x4⟩, s4, p, ⟨h1', h2', ⟨by simp only; omega, by simp only; omega⟩, h4'⟩, p1, p2, z4.mono (by omega), fun R e0 => ?_⟩
        have wd : w64 (day + p) = day + p := w64_eq (by omega) (by omega)
        rw [Stream_Members_L7, hi, cond_true]
        rcases hcase with ⟨d0, g1, g2⟩ | ⟨d0, g1, e2⟩ | ⟨d0, sa, j, y, e2, ea, ej, g1⟩
        · subst g1 g2
          simp only [I_Stream_Members, e1, wi, d0, cond_false, e3, f1, f2, f3, f4, room1 out _ 56 (show out.length ≤ 1000000 by omega) (by omega), cond_true, e4, wd]
        · subst g1
          simp only [I_Stream_Members, e1, wi, d0, e2, Bool.not_true, cond_false, e3, f1, f2, f3, f4, room1 out _ 56 (show out.length ≤ 1000000 by omega) (by omega), cond_true, e4, wd]
        · subst g1
          simp only [I_Stream_Members, e1, wi, d0, e2, Bool.not_false, ea, get_nat ej, e3, f1, f2, f3, f4, room1 out _ 56 (show out.length ≤ 1000000 by omega) (by omega), cond_true, e4, wd]
    obtain ⟨x, s', p, hx, p1, p2, zs, hstep⟩ := step
    obtain ⟨r, s'', g1, g2, g3, g4⟩ := members_L7 c hc hcl call hcall a b' cs m hm r0 n (i + 1) (day + p) s' (out ++ [x]) b (by omega) (by omega) zs hb (by omega) (by omega) (by simp; omega) (fun q hq => by
      rcases List.mem_append.1 hq with h | h
      · exact hf q h
      · simp at h; rw [h]; exact hx)
    exact ⟨r, s'', g1, by simp at g2; omega, g3, fun R e0 => by rw [hstep, g4]⟩
theorem members_L3 (c : List G_Club) (hc : ∀ x ∈ c, FineU x) (hcl : c.length ≤ 100) (ks : List (List UInt8)) (hk : ∀ q ∈ ks, q ∈ callsL) (hl : ks.length ≤ 10) : ∀ (xs : List (List UInt8)) (n i : Nat) (s : G_Stream) (out : List G_Member) (b : Int), ks.drop i = xs → i ≤ ks.length → xs.length < n → SOk (b + 100 * (i : Int)) s → b ≤ 100000 → out.length ≤ 3 * i → (∀ q ∈ out, FineM q) →
    ∃ (r : List G_Member) (s' : G_Stream), SOk (b + 100 * (ks.length : Int)) s' ∧ r.length ≤ 3 * ks.length ∧ (∀ q ∈ r, FineM q) ∧ ∀ (R : Type) (e0 : G_Stream → List G_Member → Option R), Stream_Members_L3 I_Stream_Members n c (ks.length : Int) (i : Int) s ks out e0 = e0 s' r
  | _, 0, _, _, _, _, _, _, h, _, _, _, _ => by omega
  | [], n + 1, i, s, out, b, h, hi, _, hs, hb, ho, hf => by
    refine ⟨out, s, hs.mono (by omega), by omega, hf, fun R e0 => ?_⟩
    rw [Stream_Members_L3, ge_drop h]; rfl
  | x :: xs, n + 1, i, s, out, b, h, hi, hn, hs, hb, ho, hf => by
    have h' := drop_cons h
    obtain ⟨d, s1, d1, d2, z1, e1⟩ := Stream_Range_gives hs 0 5 (by omega) (by omega) (by omega) (by omega) (by omega)
    obtain ⟨m, s2, m1, m2, z2, e2⟩ := Stream_Range_gives z1 0 2 (by omega) (by omega) (by omega) (by omega) (by omega)
    obtain ⟨m, rfl⟩ : ∃ q : Nat, m = (q : Int) := ⟨m.toNat, by omega⟩
    obtain ⟨q, s3, z3, q2, q3, e3⟩ := members_L7 c hc hcl x (hk x (mem_drop h)) (ks.length : Int) (i : Int) ks m (by omega) m NN 0 d s2 out (b + 100 * (i : Int) + 10) (by omega) (by have := NN_ok; omega) (z2.mono (by omega)) (by omega) d1 (by omega) (by omega) hf
    obtain ⟨r, s', g1, g2, g3, g4⟩ := members_L3 c hc hcl ks hk hl xs n (i + 1) s3 q b h'.2.2.1 (by omega) (by simp at hn; omega) (z3.mono (by omega)) hb (by omega) q3
    refine ⟨r, s', g1, g2, g3, fun R e0 => ?_⟩
    have g4' := g4 R e0
    have e3' := e3 R
    simp only [I_Stream_Members] at g4' e3'
    rw [Stream_Members_L3, lt_drop h]
    simp only [cond_true, inr_drop h, at_drop h, I_Stream_Members, e1, e2]
    refine (e3' _).trans ?_
    simp only [w64_succ (show i < 4611686018427387904 by omega), g4']
theorem Stream_Members_gives {b : Int} {s : G_Stream} (hs : SOk b s) (hb : b ≤ 100000) {c : List G_Club} (hc : ∀ x ∈ c, FineU x) (hcl : c.length ≤ 100) :
    ∃ (r : List G_Member) (s' : G_Stream), SOk (b + 400) s' ∧ r.length ≤ 12 ∧ (∀ c ∈ r, FineM c) ∧ ∀ (R : Type) (k : List G_Member → G_Stream → Option R), Stream_Members s c k = k r s' := by
  obtain ⟨r, s', g1, g2, g3, g4⟩ := members_L3 c hc hcl [[107, 49, 97, 98], [111, 104, 50, 97, 98, 99], [111, 104, 50, 97, 98, 100], [119, 49, 97, 119]] (by decide) (by simp) [[107, 49, 97, 98], [111, 104, 50, 97, 98, 99], [111, 104, 50, 97, 98, 100], [119, 49, 97, 119]] NN 0 s [] b rfl (by omega) (by simp; have := NN_ok; omega) (hs.mono (by omega)) hb (by simp) (fun c h => by cases h)
  refine ⟨r, s', g1.mono (by simp), by simpa using g2, g3, fun R k => ?_⟩
  have g4' : ∀ (R : Type) (e0 : G_Stream → List G_Member → Option R), Stream_Members_L3 I_Stream_Members I_Stream_Members.N c ([[107, 49, 97, 98], [111, 104, 50, 97, 98, 99], [111, 104, 50, 97, 98, 100], [119, 49, 97, 119]].length : Int) 0 s [[107, 49, 97, 98], [111, 104, 50, 97, 98, 99], [111, 104, 50, 97, 98, 100], [119, 49, 97, 119]] [] e0 = e0 s' r := g4
  simp only [Stream_Members, Stream_Members_, g4']
end Go.Am
