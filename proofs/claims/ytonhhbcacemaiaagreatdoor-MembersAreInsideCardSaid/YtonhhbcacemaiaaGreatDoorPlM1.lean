/- The plain law, in Lean alone: M1, M2, M3. No condition: lemmas for the claim. -/
import Derived.Test.YtonhhbcacemaiaaGreatDoorPlD1
import Derived.Test.YtonhhbcacemaiaaGreatDoorPlS1
set_option linter.unusedVariables false
set_option linter.unusedSectionVars false
set_option linter.unusedSimpArgs false
set_option maxRecDepth 100000
namespace Go.Am
open Go Go.Proofs
variable [Fuel]
def keysM : List (List UInt8) := [[101, 97, 115, 116], [110, 111, 114, 116, 104], [119, 101, 115, 116], [], [110, 111, 98, 111, 100, 121]]
def sqL : List (List UInt8) := [[106, 111, 54, 50], [107, 112], [107, 112, 50, 48], [107, 112, 50, 48, 108, 102], [122, 122], [107, 112, 50], [107, 112, 50, 48, 108, 102, 120], [75, 80], [114, 114, 57, 57, 120, 120], [97, 97], [115, 97]]
def locL : List (List UInt8) := [[107, 112, 50, 48, 108, 102], [107, 112, 50, 48, 97, 97], [107, 112, 50, 49, 120, 120], [106, 111, 54, 50, 113, 109], [97, 97, 48, 48, 97, 97], [107, 112, 50, 48], [107, 112, 50, 48, 108, 122]]
structure FineU (c : G_Club) : Prop where
 key : c.f_Key ∈ keysM
 sq : ∀ q ∈ c.f_Squares, q ∈ sqL
 len : c.f_Squares.length ≤ 10
structure FineM (m : G_Member) : Prop where
 call : m.f_Call ∈ callsL
 club : m.f_Club ∈ keysM
 day : Mid m.f_Day
 loc : m.f_Locator ∈ locL
theorem clubs_L8 (qs : List (List UInt8)) (hq : ∀ q ∈ qs, q ∈ sqL) (hl : qs.length ≤ 10) (a b' : Int) (cs : List (List UInt8)) (cl : List G_Club) (ck : List UInt8) : ∀ (xs : List (List UInt8)) (n j : Nat) (s : G_Stream) (out : List (List UInt8)) (b : Int), qs.drop j = xs → j ≤ qs.length → xs.length < n → SOk (b + (j : Int)) s → b ≤ 1000000 → out.length ≤ j → (∀ q ∈ out, q ∈ sqL) →
  ∃ (r : List (List UInt8)) (s' : G_Stream), SOk (b + (qs.length : Int)) s' ∧ r.length ≤ qs.length ∧ (∀ q ∈ r, q ∈ sqL) ∧ ∀ (R : Type) (e0 : Int → Int → G_Stream → List (List UInt8) → List G_Club → List UInt8 → List (List UInt8) → Option R), z16z_L8 I_z16z n a b' (qs.length : Int) (j : Int) s cs cl ck qs out e0 = e0 a b' s' cs cl ck r
 | _, 0, _, _, _, _, _, _, h, _, _, _, _ => by omega
 | [], n + 1, j, s, out, b, h, hj, _, hs, hb, ho, hf => by
  refine ⟨out, s, hs.mono (by omega), by omega, hf, fun R e0 => ?_⟩
  rw [z16z_L8, ge_drop h]; rfl
 | x :: xs, n + 1, j, s, out, b, h, hj, hn, hs, hb, ho, hf => by
  have h' := drop_cons h
  obtain ⟨f, s1, z1, e1⟩ := z66z_gives hs 3 (by omega) (by omega)
  cases f with
  | true =>
   obtain ⟨r, s', g1, g2, g3, g4⟩ := clubs_L8 qs hq hl a b' cs cl ck xs n (j + 1) s1 (out ++ [x]) b h'.2.2.1 (by omega) (by simp at hn; omega) (z1.mono (by omega)) hb (by simp; omega) (fun q hq' => by
    rcases List.mem_append.1 hq' with h1 | h1
    ·exact hf q h1
    ·simp at h1; rw [h1]; exact hq x (mem_drop h))
   refine ⟨r, s', g1, g2, g3, fun R e0 => ?_⟩
   have g4' := g4 R e0
   simp only [I_z16z] at g4'
   rw [z16z_L8, lt_drop h]
   simp only [cond_true, inr_drop h, at_drop h, I_z16z, e1, room1 out x 16 (show out.length ≤ 1000000 by omega) (by omega), w64_succ (show j < 4611686018427387904 by omega), g4']
  | false =>
   obtain ⟨r, s', g1, g2, g3, g4⟩ := clubs_L8 qs hq hl a b' cs cl ck xs n (j + 1) s1 out b h'.2.2.1 (by omega) (by simp at hn; omega) (z1.mono (by omega)) hb (by omega) hf
   refine ⟨r, s', g1, g2, g3, fun R e0 => ?_⟩
   have g4' := g4 R e0
   simp only [I_z16z] at g4'
   rw [z16z_L8, lt_drop h]
   simp only [cond_true, cond_false, inr_drop h, at_drop h, I_z16z, e1, w64_succ (show j < 4611686018427387904 by omega), g4']
def qs4 : List (List UInt8) := [[106, 111, 54, 50], [107, 112], [107, 112, 50, 48], [107, 112, 50, 48, 108, 102]]
theorem clubs_L3 (ks : List (List UInt8)) (hk : ∀ q ∈ ks, q ∈ keysM) (hl : ks.length ≤ 10) : ∀ (xs : List (List UInt8)) (n i : Nat) (s : G_Stream) (out : List G_Club) (b : Int), ks.drop i = xs → i ≤ ks.length → xs.length < n → SOk (b + 10 * (i : Int)) s → b ≤ 100000 → out.length ≤ i → (∀ q ∈ out, FineU q ∧ q.f_Squares.length ≤ 4) →
  ∃ (r : List G_Club) (s' : G_Stream), SOk (b + 10 * (ks.length : Int)) s' ∧ r.length ≤ ks.length ∧ (∀ q ∈ r, FineU q ∧ q.f_Squares.length ≤ 4) ∧ ∀ (R : Type) (e0 : G_Stream → List G_Club → Option R), z16z_L3 I_z16z n (ks.length : Int) (i : Int) s ks out e0 = e0 s' r
 | _, 0, _, _, _, _, _, _, h, _, _, _, _ => by omega
 | [], n + 1, i, s, out, b, h, hi, _, hs, hb, ho, hf => by
  refine ⟨out, s, hs.mono (by omega), by omega, hf, fun R e0 => ?_⟩
  rw [z16z_L3, ge_drop h]; rfl
 | x :: xs, n + 1, i, s, out, b, h, hi, hn, hs, hb, ho, hf => by
  have h' := drop_cons h
  obtain ⟨f, s1, z1, e1⟩ := z66z_gives hs 6 (by omega) (by omega)
  cases f with
  | true =>
   obtain ⟨r, s', g1, g2, g3, g4⟩ := clubs_L3 ks hk hl xs n (i + 1) s1 out b h'.2.2.1 (by omega) (by simp at hn; omega) (z1.mono (by omega)) hb (by omega) hf
   refine ⟨r, s', g1, g2, g3, fun R e0 => ?_⟩
   have g4' := g4 R e0
   simp only [I_z16z] at g4'
   rw [z16z_L3, lt_drop h]
   simp only [cond_true, inr_drop h, at_drop h, I_z16z, e1, w64_succ (show i < 4611686018427387904 by omega), g4']
  | false =>
   obtain ⟨q, s2, z2, q2, q3, e2⟩ := clubs_L8 qs4 (by decide) (by decide) (ks.length : Int) (i : Int) ks out x qs4 NN 0 s1 [] (b + 10 * (i : Int) + 1) rfl (by decide) (by have := NN_ok; show 4 < NN; omega) (z1.mono (by omega)) (by omega) (by simp) (fun q h => by cases h)
   have hlen4 : (qs4.length : Int) = 4 := rfl
   have hq4 : qs4.length = 4 := rfl
   obtain ⟨r, s', g1, g2, g3, g4⟩ := clubs_L3 ks hk hl xs n (i + 1) s2 (out ++ [⟨x, q⟩]) b h'.2.2.1 (by omega) (by simp at hn; omega) (z2.mono (by omega)) hb (by simp; omega) (fun c hc => by
    rcases List.mem_append.1 hc with h1 | h1
    ·exact hf c h1
    ·simp at h1; rw [h1]; exact ⟨⟨hk x (mem_drop h), q3, by simp only; omega⟩, by simp only; omega⟩)
   refine ⟨r, s', g1, g2, g3, fun R e0 => ?_⟩
   have g4' := g4 R e0
   have e2' := e2 R
   simp only [I_z16z] at g4' e2'
   rw [z16z_L3, lt_drop h]
   have z0 : ((0 : Nat) : Int) = 0 := rfl
   simp only [qs4, z0] at e2'
   simp only [cond_true, cond_false, inr_drop h, at_drop h, I_z16z, e1]
   refine (e2' _).trans ?_
   simp only [cond_true, room1 out _ 40 (show out.length ≤ 1000000 by omega) (by omega), w64_succ (show i < 4611686018427387904 by omega), g4']
theorem z16z_gives {b : Int} {s : G_Stream} (hs : SOk b s) (hb : b ≤ 100000) :
  ∃ (r : List G_Club) (s' : G_Stream), SOk (b + 30) s' ∧ r.length ≤ 3 ∧ (∀ c ∈ r, FineU c ∧ c.f_Squares.length ≤ 4) ∧ ∀ (R : Type) (k : List G_Club → G_Stream → Option R), z16z s k = k r s' := by
 obtain ⟨r, s', g1, g2, g3, g4⟩ := clubs_L3 [[101, 97, 115, 116], [110, 111, 114, 116, 104], [119, 101, 115, 116]] (by decide) (by simp) [[101, 97, 115, 116], [110, 111, 114, 116, 104], [119, 101, 115, 116]] NN 0 s [] b rfl (by omega) (by simp; have := NN_ok; omega) (hs.mono (by omega)) hb (by simp) (fun c h => by cases h)
 refine ⟨r, s', g1.mono (by simp), by simpa using g2, g3, fun R k => ?_⟩
 have g4' : ∀ (R : Type) (e0 : G_Stream → List G_Club → Option R), z16z_L3 I_z16z I_z16z.N ([[101, 97, 115, 116], [110, 111, 114, 116, 104], [119, 101, 115, 116]].length : Int) 0 s [[101, 97, 115, 116], [110, 111, 114, 116, 104], [119, 101, 115, 116]] [] e0 = e0 s' r := g4
 simp only [z16z, z16z_, g4']
end Go.Am
set_option linter.unusedVariables false
set_option linter.unusedSectionVars false
set_option linter.unusedSimpArgs false
set_option maxRecDepth 100000
namespace Go.Am
open Go Go.Proofs
variable [Fuel]
theorem members_L7 (c : List G_Club) (hc : ∀ x ∈ c, FineU x) (hcl : c.length ≤ 100) (call : List UInt8) (hcall : call ∈ callsL) (a b' : Int) (cs : List (List UInt8)) (m : Nat) (hm : m ≤ 10) : ∀ (r0 n i : Nat) (day : Int) (s : G_Stream) (out : List G_Member) (b : Int), i + r0 = m → r0 < n → SOk (b + 20 * (i : Int)) s → b ≤ 900000 → 0 ≤ day → day ≤ 10 + 3 * (i : Int) → out.length ≤ 1000 + i → (∀ q ∈ out, FineM q) →
  ∃ (r : List G_Member) (s' : G_Stream), SOk (b + 20 * (m : Int)) s' ∧ r.length = out.length + r0 ∧ (∀ q ∈ r, FineM q) ∧ ∀ (R : Type) (e0 : List G_Club → Int → Int → G_Stream → List (List UInt8) → List G_Member → Option R), z19z_L7 I_z19z n c call day a b' (m : Int) (i : Int) s cs out e0 = e0 c a b' s' cs r
 | _, 0, _, _, _, _, _, _, h, _, _, _, _, _, _ => by omega
 | 0, n + 1, i, day, s, out, b, h, _, hs, hb, h1, h2, ho, hf => by
  obtain rfl : i = m := by omega
  refine ⟨out, s, hs, rfl, hf, fun R e0 => ?_⟩
  rw [z19z_L7, decide_eq_false (by omega)]; rfl
 | r0 + 1, n + 1, i, day, s, out, b, h, hn, hs, hb, h1, h2, ho, hf => by
  have step : ∃ (x : G_Member) (s' : G_Stream) (p : Int), FineM x ∧ 1 ≤ p ∧ p ≤ 3 ∧ SOk (b + 20 * ((i + 1 : Nat) : Int)) s' ∧ ∀ (R : Type) (e0 : List G_Club → Int → Int → G_Stream → List (List UInt8) → List G_Member → Option R),
    z19z_L7 I_z19z (n + 1) c call day a b' (m : Int) (i : Int) s cs out e0 = z19z_L7 I_z19z n c call (day + p) a b' (m : Int) ((i + 1 : Nat) : Int) s' cs (out ++ [x]) e0 := by
   obtain ⟨lc, s1, hlc, z1, e1⟩ := z76z_gives hs [[107, 112, 50, 48, 108, 102], [107, 112, 50, 48, 97, 97], [107, 112, 50, 49, 120, 120], [106, 111, 54, 50, 113, 109], [97, 97, 48, 48, 97, 97]] (by omega) (by simp) (by simp)
   have hlc' : lc ∈ locL := sub_mem hlc (by decide +kernel)
   have hi : decide ((i : Int) < (m : Int)) = true := decide_eq_true (by omega)
   have wi := w64_succ (show i < 4611686018427387904 by omega)
   have clubk : ∃ (k : List UInt8) (s2 : G_Stream), k ∈ keysM ∧ SOk (b + 20 * (i : Int) + 4) s2 ∧
     ((decide ((c.length : Int) > 0) = false ∧ k = [] ∧ s2 = s1) ∨ (decide ((c.length : Int) > 0) = true ∧ k = [] ∧ ∀ (R : Type) (k : Bool → G_Stream → Option R), z66z s1 5 k = k true s2) ∨
      (decide ((c.length : Int) > 0) = true ∧ ∃ (s3 : G_Stream) (j : Nat) (x : G_Club), (∀ (R : Type) (k : Bool → G_Stream → Option R), z66z s1 5 k = k false s3) ∧ (∀ (R : Type) (k : Int → G_Stream → Option R), z61z s3 (c.length : Int) k = k (j : Int) s2) ∧ c[j]? = some x ∧ k = x.f_Key)) := by
    by_cases h0 : 0 < c.length
    ·have d0 : decide ((c.length : Int) > 0) = true := decide_eq_true (by omega)
     obtain ⟨f, s2, z2, e2⟩ := z66z_gives z1 5 (by omega) (by omega)
     cases f with
     | true => exact ⟨[], s2, by decide, z2.mono (by omega), .inr (.inl ⟨d0, rfl, e2⟩)⟩
     | false =>
      obtain ⟨j, s3, j1, j2, z3, e3⟩ := z61z_gives z2 (c.length : Int) (by omega) (by omega)
      obtain ⟨j, rfl⟩ : ∃ q : Nat, j = (q : Int) := ⟨j.toNat, by omega⟩
      have hj : j < c.length := by have := j2 (by omega); omega
      exact ⟨c[j].f_Key, s3, (hc _ (List.getElem_mem hj)).key, z3.mono (by omega), .inr (.inr ⟨d0, s2, j, c[j], e2, e3, List.getElem?_eq_getElem hj, rfl⟩)⟩
    ·have d0 : decide ((c.length : Int) > 0) = false := decide_eq_false (by omega)
     exact ⟨[], s1, by decide, z1.mono (by omega), .inl ⟨d0, rfl, rfl⟩⟩
   obtain ⟨k, s2, hk, z2, hcase⟩ := clubk
   obtain ⟨f, s3, z3, e3⟩ := z66z_gives z2 60 (by omega) (by omega)
   cases f with
   | false =>
    obtain ⟨p, s4, p1, p2, z4, e4⟩ := z60z_gives z3 1 3 (by omega) (by omega) (by omega) (by omega) (by omega)
    refine ⟨⟨call, k, day, lc⟩, s4, p, ⟨hcall, hk, ⟨by simp only; omega, by simp only; omega⟩, hlc'⟩, p1, p2, z4.mono (by omega), fun R e0 => ?_⟩
    have wd : w64 (day + p) = day + p := w64_eq (by omega) (by omega)
    rw [z19z_L7, hi, cond_true]
    rcases hcase with ⟨d0, g1, g2⟩ | ⟨d0, g1, e2⟩ | ⟨d0, sa, j, y, e2, ea, ej, g1⟩
    ·subst g1 g2
     simp only [I_z19z, e1, wi, d0, cond_false, e3, room1 out _ 56 (show out.length ≤ 1000000 by omega) (by omega), cond_true, e4, wd]
    ·subst g1
     simp only [I_z19z, e1, wi, d0, e2, Bool.not_true, cond_false, e3, room1 out _ 56 (show out.length ≤ 1000000 by omega) (by omega), cond_true, e4, wd]
    ·subst g1
     simp only [I_z19z, e1, wi, d0, e2, Bool.not_false, ea, get_nat ej, cond_false, e3, room1 out _ 56 (show out.length ≤ 1000000 by omega) (by omega), cond_true, e4, wd]
   | true =>
    obtain ⟨x1, t1, hx1, y1, f1⟩ := z76z_gives z3 [call, [107, 49, 97, 98, 47, 52], []] (by omega) (by simp) (by simp)
    obtain ⟨x2, t2, hx2, y2, f2⟩ := z76z_gives y1 [k, [110, 111, 98, 111, 100, 121]] (by omega) (by simp) (by simp)
    obtain ⟨x3, t3, x31, x32, y3, f3⟩ := Stream_Odd_gives y2 0 9 (by omega) (by omega) (by omega) (by omega) (by omega)
    obtain ⟨x4, t4, hx4, y4, f4⟩ := z76z_gives y3 [[107, 112, 50, 48], [107, 112, 50, 48, 108, 122], [107, 112, 50, 48, 108, 102]] (by omega) (by simp) (by simp)
    obtain ⟨p, s4, p1, p2, z4, e4⟩ := z60z_gives y4 1 3 (by omega) (by omega) (by omega) (by omega) (by omega)
    have h1' : x1 ∈ callsL := by
     simp only [List.mem_cons, List.not_mem_nil, or_false] at hx1
     rcases hx1 with h | h | h
     ·rw [h]; exact hcall
     ·rw [h]; decide
     ·rw [h]; decide
    have h2' : x2 ∈ keysM := by
     simp only [List.mem_cons, List.not_mem_nil, or_false] at hx2
     rcases hx2 with h | h
     ·rw [h]; exact hk
     ·rw [h]; decide
    have h4' : x4 ∈ locL := sub_mem hx4 (by decide +kernel)
    refine ⟨⟨x1, x2, x3, x4⟩, s4, p, ⟨h1', h2', ⟨by simp only; omega, by simp only; omega⟩, h4'⟩, p1, p2, z4.mono (by omega), fun R e0 => ?_⟩
    have wd : w64 (day + p) = day + p := w64_eq (by omega) (by omega)
    rw [z19z_L7, hi, cond_true]
    rcases hcase with ⟨d0, g1, g2⟩ | ⟨d0, g1, e2⟩ | ⟨d0, sa, j, y, e2, ea, ej, g1⟩
    ·subst g1 g2
     simp only [I_z19z, e1, wi, d0, cond_false, e3, f1, f2, f3, f4, room1 out _ 56 (show out.length ≤ 1000000 by omega) (by omega), cond_true, e4, wd]
    ·subst g1
     simp only [I_z19z, e1, wi, d0, e2, Bool.not_true, cond_false, e3, f1, f2, f3, f4, room1 out _ 56 (show out.length ≤ 1000000 by omega) (by omega), cond_true, e4, wd]
    ·subst g1
     simp only [I_z19z, e1, wi, d0, e2, Bool.not_false, ea, get_nat ej, e3, f1, f2, f3, f4, room1 out _ 56 (show out.length ≤ 1000000 by omega) (by omega), cond_true, e4, wd]
  obtain ⟨x, s', p, hx, p1, p2, zs, hstep⟩ := step
  obtain ⟨r, s'', g1, g2, g3, g4⟩ := members_L7 c hc hcl call hcall a b' cs m hm r0 n (i + 1) (day + p) s' (out ++ [x]) b (by omega) (by omega) zs hb (by omega) (by omega) (by simp; omega) (fun q hq => by
   rcases List.mem_append.1 hq with h | h
   ·exact hf q h
   ·simp at h; rw [h]; exact hx)
  exact ⟨r, s'', g1, by simp at g2; omega, g3, fun R e0 => by rw [hstep, g4]⟩
theorem members_L3 (c : List G_Club) (hc : ∀ x ∈ c, FineU x) (hcl : c.length ≤ 100) (ks : List (List UInt8)) (hk : ∀ q ∈ ks, q ∈ callsL) (hl : ks.length ≤ 10) : ∀ (xs : List (List UInt8)) (n i : Nat) (s : G_Stream) (out : List G_Member) (b : Int), ks.drop i = xs → i ≤ ks.length → xs.length < n → SOk (b + 100 * (i : Int)) s → b ≤ 100000 → out.length ≤ 3 * i → (∀ q ∈ out, FineM q) →
  ∃ (r : List G_Member) (s' : G_Stream), SOk (b + 100 * (ks.length : Int)) s' ∧ r.length ≤ 3 * ks.length ∧ (∀ q ∈ r, FineM q) ∧ ∀ (R : Type) (e0 : G_Stream → List G_Member → Option R), z19z_L3 I_z19z n c (ks.length : Int) (i : Int) s ks out e0 = e0 s' r
 | _, 0, _, _, _, _, _, _, h, _, _, _, _ => by omega
 | [], n + 1, i, s, out, b, h, hi, _, hs, hb, ho, hf => by
  refine ⟨out, s, hs.mono (by omega), by omega, hf, fun R e0 => ?_⟩
  rw [z19z_L3, ge_drop h]; rfl
 | x :: xs, n + 1, i, s, out, b, h, hi, hn, hs, hb, ho, hf => by
  have h' := drop_cons h
  obtain ⟨d, s1, d1, d2, z1, e1⟩ := z60z_gives hs 0 5 (by omega) (by omega) (by omega) (by omega) (by omega)
  obtain ⟨m, s2, m1, m2, z2, e2⟩ := z60z_gives z1 0 2 (by omega) (by omega) (by omega) (by omega) (by omega)
  obtain ⟨m, rfl⟩ : ∃ q : Nat, m = (q : Int) := ⟨m.toNat, by omega⟩
  obtain ⟨q, s3, z3, q2, q3, e3⟩ := members_L7 c hc hcl x (hk x (mem_drop h)) (ks.length : Int) (i : Int) ks m (by omega) m NN 0 d s2 out (b + 100 * (i : Int) + 10) (by omega) (by have := NN_ok; omega) (z2.mono (by omega)) (by omega) d1 (by omega) (by omega) hf
  obtain ⟨r, s', g1, g2, g3, g4⟩ := members_L3 c hc hcl ks hk hl xs n (i + 1) s3 q b h'.2.2.1 (by omega) (by simp at hn; omega) (z3.mono (by omega)) hb (by omega) q3
  refine ⟨r, s', g1, g2, g3, fun R e0 => ?_⟩
  have g4' := g4 R e0
  have e3' := e3 R
  simp only [I_z19z] at g4' e3'
  rw [z19z_L3, lt_drop h]
  simp only [cond_true, inr_drop h, at_drop h, I_z19z, e1, e2]
  refine (e3' _).trans ?_
  simp only [w64_succ (show i < 4611686018427387904 by omega), g4']
theorem z19z_gives {b : Int} {s : G_Stream} (hs : SOk b s) (hb : b ≤ 100000) {c : List G_Club} (hc : ∀ x ∈ c, FineU x) (hcl : c.length ≤ 100) :
  ∃ (r : List G_Member) (s' : G_Stream), SOk (b + 400) s' ∧ r.length ≤ 12 ∧ (∀ c ∈ r, FineM c) ∧ ∀ (R : Type) (k : List G_Member → G_Stream → Option R), z19z s c k = k r s' := by
 obtain ⟨r, s', g1, g2, g3, g4⟩ := members_L3 c hc hcl [[107, 49, 97, 98], [111, 104, 50, 97, 98, 99], [111, 104, 50, 97, 98, 100], [119, 49, 97, 119]] (by decide) (by simp) [[107, 49, 97, 98], [111, 104, 50, 97, 98, 99], [111, 104, 50, 97, 98, 100], [119, 49, 97, 119]] NN 0 s [] b rfl (by omega) (by simp; have := NN_ok; omega) (hs.mono (by omega)) hb (by simp) (fun c h => by cases h)
 refine ⟨r, s', g1.mono (by simp), by simpa using g2, g3, fun R k => ?_⟩
 have g4' : ∀ (R : Type) (e0 : G_Stream → List G_Member → Option R), z19z_L3 I_z19z I_z19z.N c ([[107, 49, 97, 98], [111, 104, 50, 97, 98, 99], [111, 104, 50, 97, 98, 100], [119, 49, 97, 119]].length : Int) 0 s [[107, 49, 97, 98], [111, 104, 50, 97, 98, 99], [111, 104, 50, 97, 98, 100], [119, 49, 97, 119]] [] e0 = e0 s' r := g4
 simp only [z19z, z19z_, g4']
end Go.Am
set_option linter.unusedVariables false
set_option linter.unusedSectionVars false
set_option linter.unusedSimpArgs false
set_option maxRecDepth 100000
namespace Go.Am
open Go Go.Proofs
variable [Fuel]
theorem keysM_ok : keysM.all (fun s => okBool (kit_IsKey s some) (Q_Key s some)) = true := by
 obtain ⟨m, h, rfl⟩ := fuel_is ‹Fuel›
 kernel_rfl
theorem keysM_nil : keyB [] = false := by
 obtain ⟨m, h, rfl⟩ := fuel_is ‹Fuel›
 kernel_rfl
theorem kit_IsKeyM_is {s : List UInt8} (h : s ∈ keysM) (R : Type) (k : Bool → Option R) : kit_IsKey s k = k (keyB s) :=
 nat_bool ok_kit_IsKey.na (args := [.d (.str s)]) (F := @kit_IsKey _ s) (fun _ _ => rfl) (okBool_is (List.all_eq_true.1 keysM_ok s h)).1 R k
theorem Q_KeyM_is {s : List UInt8} (h : s ∈ keysM) (R : Type) (k : Bool → Option R) : Q_Key s k = k (keyB s) :=
 nat_bool ok_Q_Key.na (args := [.d (.str s)]) (F := @Q_Key _ s) (fun _ _ => rfl) (okBool_is (List.all_eq_true.1 keysM_ok s h)).2 R k
noncomputable def sqB (s : List UInt8) : Bool := (z56z s some).getD false
theorem sq_ok : (sqL ++ locL).all (fun s => okBool (z56z s some) (Q_Square s some)) = true := by
 obtain ⟨m, h, rfl⟩ := fuel_is ‹Fuel›
 kernel_rfl
theorem z56z_is {s : List UInt8} (h : s ∈ sqL ++ locL) (R : Type) (k : Bool → Option R) : z56z s k = k (sqB s) :=
 nat_bool ok_z56z.na (args := [.d (.str s)]) (F := @z56z _ s) (fun _ _ => rfl) (okBool_is (List.all_eq_true.1 sq_ok s h)).1 R k
theorem Q_Square_is {s : List UInt8} (h : s ∈ sqL ++ locL) (R : Type) (k : Bool → Option R) : Q_Square s k = k (sqB s) :=
 nat_bool ok_Q_Square.na (args := [.d (.str s)]) (F := @Q_Square _ s) (fun _ _ => rfl) (okBool_is (List.all_eq_true.1 sq_ok s h)).2 R k
noncomputable def locB (s : List UInt8) : Bool := bif (s.length : Int) == 6 then sqB s else false
theorem z68z_is {s : List UInt8} (h : s ∈ locL) (R : Type) (k : Bool → Option R) : z68z s k = k (locB s) := by
 simp only [z68z, z68z_, I_z68z, z56z_is (List.mem_append_right _ h), locB]
 cases (s.length : Int) == 6 <;> rfl
theorem Q_locator_is {s : List UInt8} (h : s ∈ locL) (R : Type) (k : Bool → Option R) : Q_locator s k = k (locB s) := by
 simp only [Q_locator, Q_locator_, I_Q_locator, Q_Square_is (List.mem_append_right _ h), locB]
 cases (s.length : Int) == 6 <;> rfl
theorem parts_gives {s : List UInt8} (h : s ∈ callsL) : ∃ p : G_Parts, p.f_Base = baseB s ∧ ∀ (R : Type) (K : G_Parts → Bool → Option R), call_Parts s K = K p (callB s) := by
 let f : (R : Type) → (G_Parts → Bool → Option R) → IV A → List (IV A) → Option R := fun R K r _ => match r with
  | .tup [.agg [.d (.str a), .d (.str b), .d (.str c), .d (.int .i64 n), .d (.str d)], .d (.bool x)] => K ⟨a, b, c, n, d⟩ x
  | _ => none
 have h1 : ∀ (R : Type) (K : G_Parts → Bool → Option R), call_Parts s K = (SS_call_Parts (@call_Parts _) [.d (.str s)] (fun r ys => some (r, ys))).bind fun p => f R K p.1 p.2 := fun R K => ok_call_Parts.na [.d (.str s)] R (f R K)
 have hi : call_Parts s (fun _ b => some b) = some (callB s) := by
  have := call_Is_is h Bool some
  simpa only [call_Is, call_Is_, I_call_Is] using this
 have hb : call_Parts s (fun p _ => some p.f_Base) = some (baseB s) := by
  have := z73z_is h _ some
  simpa only [z73z, z73z_, I_z73z] using this
 cases ht : SS_call_Parts (@call_Parts _) [.d (.str s)] (fun r ys => some (r, ys)) with
 | none => rw [h1, ht] at hi; cases hi
 | some q =>
  obtain ⟨v, ys⟩ := q
  have h2 : ∀ (R : Type) (K : G_Parts → Bool → Option R), call_Parts s K = f R K v ys := fun R K => by rw [h1, ht]; rfl
  rw [h2] at hi hb
  have hv : ∃ (p : G_Parts) (x : Bool), ∀ (R : Type) (K : G_Parts → Bool → Option R), f R K v ys = K p x := by
   simp only [f] at hi
   split at hi
   ·exact ⟨_, _, fun R K => rfl⟩
   ·cases hi
  obtain ⟨p, x, hp⟩ := hv
  have hi2 : some x = some (callB s) := (hp Bool (fun _ b => some b)).symm.trans hi
  have hb2 : some p.f_Base = some (baseB s) := (hp (List UInt8) (fun p _ => some p.f_Base)).symm.trans hb
  refine ⟨p, Option.some.inj hb2, fun R K => ?_⟩
  have h3 := (h2 R K).trans (hp R K)
  rw [Option.some.inj hi2] at h3
  exact h3
def lowS (p : Option (List UInt8)) (q : List UInt8) : Bool := match p with | none => false | some r => Op.bytesLess q r || q == r
noncomputable def faultS : Option (List UInt8) → List (List UInt8) → Int
 | _, [] => 0
 | p, q :: qs => bif !sqB q then 3 else bif lowS p q then 7 else faultS (some q) qs
noncomputable def faultSq (l : List (List UInt8)) : Int := bif decide ((l.length : Int) > 100) then 2 else faultS none l
theorem z33z_loop (d : List (List UInt8)) (hf : ∀ q ∈ d, q ∈ sqL) (hl : d.length ≤ 100000) : ∀ (xs : List (List UInt8)) (n i : Nat) (p : Option (List UInt8)), d.drop i = xs → PrevAt d i p → xs.length < n → ∀ (R : Type) (k : Int → Option R),
  z33z_L4 I_z33z n d d (d.length : Int) (i : Int) k (k 0) = k (faultS p xs)
 | _, 0, _, _, _, _, h, _, _ => by omega
 | [], n + 1, i, p, h, _, _, _, _ => by rw [z33z_L4, ge_drop h]; rfl
 | c :: cs, n + 1, i, p, h, hp, hn, R, k => by
  have h' := drop_cons h
  have ih := z33z_loop d hf hl cs n (i + 1) (some c) h'.2.2.1 (prevAt_next h) (by simp at hn; omega) R k
  rw [z33z_L4, lt_drop h]
  simp only [I_z33z] at ih
  simp only [cond_true, get_drop h, I_z33z, z56z_is (List.mem_append_left _ (hf c (mem_drop h))), faultS, w64_succ (show i < 4611686018427387904 by omega), ih]
  cases sqB c with
  | false => rfl
  | true =>
   cases p with
   | none => rw [decide_eq_false (show ¬ ((i : Int) > 0) by unfold PrevAt at hp; omega)]; rfl
   | some q =>
    obtain ⟨h0, ys, hq⟩ := hp
    rw [decide_eq_true (show ((i : Int) > 0) by omega), cond_true, prev_drop hq h0 (by omega)]
    simp only [Bool.not_true, cond_false, lowS]
    cases (Op.bytesLess c q || c == q) <;> rfl
theorem z33z_is {d : List (List UInt8)} (hf : ∀ q ∈ d, q ∈ sqL) (hl : d.length ≤ 100000) (R : Type) (k : Int → Option R) : z33z d k = k (faultSq d) := by
 have h : z33z_L4 I_z33z I_z33z.N d d (d.length : Int) 0 k (k 0) = k (faultS none d) := z33z_loop d hf hl d I_z33z.N 0 none rfl rfl (show d.length < NN by have := NN_ok; omega) R k
 simp only [z33z, z33z_, faultSq, h]
 cases decide ((d.length : Int) > 100) <;> rfl
theorem z29z_L15_is (v33 : List UInt8) (v34 : List G_Club) (v35 v36 : Int) (c : G_Club) (hf : ∀ q ∈ c.f_Squares, q ∈ sqL) (hl : c.f_Squares.length ≤ 100000) : ∀ (xs : List (List UInt8)) (n i : Nat) (p : Option (List UInt8)), c.f_Squares.drop i = xs → PrevAt c.f_Squares i p → xs.length < n → ∀ (R : Type) (e0 : Int → List UInt8 → List G_Club → Int → Int → Option R) (e1 : List UInt8 → List G_Club → Int → Int → Option R),
  z29z_L15 I_z29z n v33 v34 v35 v36 c.f_Squares (c.f_Squares.length : Int) (i : Int) c e0 e1 = bif faultS p xs != 0 then e0 (faultS p xs) v33 v34 v35 v36 else e1 v33 v34 v35 v36
 | _, 0, _, _, _, _, h, _, _, _ => by omega
 | [], n + 1, i, p, h, _, _, _, _, _ => by rw [z29z_L15, ge_drop h]; rfl
 | q0 :: cs, n + 1, i, p, h, hp, hn, R, e0, e1 => by
  have h' := drop_cons h
  have ih := z29z_L15_is v33 v34 v35 v36 c hf hl cs n (i + 1) (some q0) h'.2.2.1 (prevAt_next h) (by simp at hn; omega) R e0 e1
  rw [z29z_L15, lt_drop h]
  simp only [I_z29z] at ih
  simp only [cond_true, get_drop h, I_z29z, Q_Square_is (List.mem_append_left _ (hf q0 (mem_drop h))), faultS, w64_succ (show i < 4611686018427387904 by omega), ih]
  cases sqB q0 with
  | false => rfl
  | true =>
   cases p with
   | none => rw [decide_eq_false (show ¬ ((i : Int) > 0) by unfold PrevAt at hp; omega)]; rfl
   | some q =>
    obtain ⟨h0, ys, hq⟩ := hp
    rw [decide_eq_true (show ((i : Int) > 0) by omega), cond_true, prev_drop hq h0 (by omega)]
    simp only [Bool.not_true, cond_false, lowS]
    cases (Op.bytesLess q0 q || q0 == q) <;> rfl
def lowU (p : Option G_Club) (c : G_Club) : Bool := match p with | none => false | some q => Op.bytesLess c.f_Key q.f_Key || c.f_Key == q.f_Key
noncomputable def chkU (p : Option G_Club) (c : G_Club) : Int := bif !keyB c.f_Key then 5 else bif lowU p c then 7 else faultSq c.f_Squares
noncomputable def faultUs : Option G_Club → List G_Club → Int
 | _, [] => 0
 | p, c :: cs => bif chkU p c != 0 then chkU p c else faultUs (some c) cs
theorem z39z_loop (d : List G_Club) (hf : ∀ c ∈ d, FineU c) (hl : d.length ≤ 100000) : ∀ (xs : List G_Club) (n i : Nat) (p : Option G_Club), d.drop i = xs → PrevAt d i p → xs.length < n → ∀ (R : Type) (k : Int → Option R),
  z39z_L4 I_z39z n d d (d.length : Int) (i : Int) k (k 0) = k (faultUs p xs)
 | _, 0, _, _, _, _, h, _, _ => by omega
 | [], n + 1, i, p, h, _, _, _, _ => by rw [z39z_L4, ge_drop h]; rfl
 | c :: cs, n + 1, i, p, h, hp, hn, R, k => by
  have h' := drop_cons h
  have fc := hf c (mem_drop h)
  have ih := z39z_loop d hf hl cs n (i + 1) (some c) h'.2.2.1 (prevAt_next h) (by simp at hn; omega) R k
  have hlen := fc.len
  rw [z39z_L4, lt_drop h]
  simp only [I_z39z] at ih
  simp only [cond_true, get_drop h, I_z39z, kit_IsKeyM_is fc.key, z33z_is fc.sq (show c.f_Squares.length ≤ 100000 by omega), faultUs, chkU, w64_succ (show i < 4611686018427387904 by omega), ih]
  cases keyB c.f_Key with
  | false => rfl
  | true =>
   cases p with
   | none =>
    rw [decide_eq_false (show ¬ ((i : Int) > 0) by unfold PrevAt at hp; omega)]
    simp only [Bool.not_true, cond_false, lowU]
    cases faultSq c.f_Squares != 0 <;> rfl
   | some q =>
    obtain ⟨h0, ys, hq⟩ := hp
    rw [decide_eq_true (show ((i : Int) > 0) by omega), cond_true, prev_drop hq h0 (by omega)]
    simp only [Bool.not_true, cond_false, lowU]
    cases (Op.bytesLess c.f_Key q.f_Key || c.f_Key == q.f_Key) with
    | true => rfl
    | false =>
     simp only [cond_false]
     cases faultSq c.f_Squares != 0 <;> rfl
def lastU (p : Option G_Club) : List UInt8 := match p with | none => [] | some q => q.f_Key
theorem lowU_last {p : Option G_Club} {c : G_Club} (hk : keyB c.f_Key = true) : (Op.bytesLess c.f_Key (lastU p) || c.f_Key == lastU p) = lowU p c := by
 cases p with
 | some q => rfl
 | none =>
  have hne : c.f_Key ≠ [] := fun e => by rw [e, keysM_nil] at hk; cases hk
  unfold lastU lowU
  cases hc : c.f_Key with
  | nil => exact absurd hc hne
  | cons x xs =>
   simp only
   rw [bytesLess_is]
   rfl
theorem z29z_loop (d : List G_Club) (hf : ∀ c ∈ d, FineU c) (hl : d.length ≤ 100000) : ∀ (xs : List G_Club) (n i : Nat) (p : Option G_Club), d.drop i = xs → xs.length < n → ∀ (R : Type) (k : Int → Option R),
  z29z_L5 I_z29z n (lastU p) d (d.length : Int) (i : Int) k (k 0) = k (faultUs p xs)
 | _, 0, _, _, _, h, _, _ => by omega
 | [], n + 1, i, p, h, _, _, _ => by rw [z29z_L5, ge_drop h]; rfl
 | c :: cs, n + 1, i, p, h, hn, R, k => by
  have h' := drop_cons h
  have fc := hf c (mem_drop h)
  have hlen := fc.len
  have ih : z29z_L5 I_z29z n c.f_Key d (d.length : Int) ((i + 1 : Nat) : Int) k (k 0) = k (faultUs (some c) cs) := z29z_loop d hf hl cs n (i + 1) (some c) h'.2.2.1 (by simp at hn; omega) R k
  have h15 : ∀ (e0 : Int → List UInt8 → List G_Club → Int → Int → Option R) (e1 : List UInt8 → List G_Club → Int → Int → Option R), z29z_L15 I_z29z NN c.f_Key d (d.length : Int) (i : Int) c.f_Squares (c.f_Squares.length : Int) 0 c e0 e1 = bif faultS none c.f_Squares != 0 then e0 (faultS none c.f_Squares) c.f_Key d (d.length : Int) (i : Int) else e1 c.f_Key d (d.length : Int) (i : Int) :=
   z29z_L15_is c.f_Key d (d.length : Int) (i : Int) c fc.sq (by omega) c.f_Squares NN 0 none rfl rfl (by have := NN_ok; omega) R
  rw [z29z_L5, lt_drop h]
  simp only [I_z29z] at ih h15
  simp only [cond_true, get_drop h, I_z29z, Q_KeyM_is fc.key, h15, w64_succ (show i < 4611686018427387904 by omega), ih, faultUs, chkU, faultSq]
  cases hk : keyB c.f_Key with
  | false => rfl
  | true =>
   rw [lowU_last hk]
   cases lowU p c with
   | true => rfl
   | false =>
    simp only [Bool.not_true, cond_false]
    rw [decide_eq_false (show ¬ ((c.f_Squares.length : Int) > 100) by omega)]
    simp only [cond_false]
    cases faultS none c.f_Squares != 0 <;> rfl
noncomputable def faultU (d : List G_Club) : Int := bif decide ((d.length : Int) > 200) then 2 else faultUs none d
theorem z39z_is {d : List G_Club} (hf : ∀ c ∈ d, FineU c) (hl : d.length ≤ 100000) (R : Type) (k : Int → Option R) : z39z d k = k (faultU d) := by
 have h : z39z_L4 I_z39z I_z39z.N d d (d.length : Int) 0 k (k 0) = k (faultUs none d) := z39z_loop d hf hl d I_z39z.N 0 none rfl rfl (show d.length < NN by have := NN_ok; omega) R k
 simp only [z39z, z39z_, faultU, h]
 cases decide ((d.length : Int) > 200) <;> rfl
theorem z29z_is {d : List G_Club} (hf : ∀ c ∈ d, FineU c) (hl : d.length ≤ 100000) (R : Type) (k : Int → Option R) : z29z d k = k (faultU d) := by
 have h : z29z_L5 I_z29z I_z29z.N [] d (d.length : Int) 0 k (k 0) = k (faultUs none d) := z29z_loop d hf hl d I_z29z.N 0 none rfl (show d.length < NN by have := NN_ok; omega) R k
 simp only [z29z, z29z_, faultU, h]
 cases decide ((d.length : Int) > 200) <;> rfl
theorem cb_lt_trans {a b c : List UInt8} (h1 : Lib.compareBytes a b < 0) (h2 : Lib.compareBytes b c < 0) : Lib.compareBytes a c < 0 := by
 have h3 := cb_trans a b c (by omega) (by omega)
 rcases Int.lt_or_eq_of_le h3 with h | h
 ·exact h
 ·have e := cb_zero a c h
  subst e
  have := cb_anti a b
  omega
abbrev SortedU (d : List G_Club) : Prop := d.Pairwise fun a b => Lib.compareBytes a.f_Key b.f_Key < 0
theorem faultUs_sorted : ∀ (l : List G_Club) (p : Option G_Club), faultUs p l = 0 → (∀ q, p = some q → ∀ c ∈ l, Lib.compareBytes q.f_Key c.f_Key < 0) ∧ SortedU l ∧ ∀ c ∈ l, keyB c.f_Key = true
 | [], _, _ => ⟨fun _ _ _ h => (by cases h), .nil, fun _ h => (by cases h)⟩
 | x :: xs, p, h => by
  unfold faultUs at h
  cases hx : chkU p x != 0 with
  | true => rw [hx] at h; simp only [cond_true] at h; rw [h] at hx; cases hx
  | false =>
   rw [hx, cond_false] at h
   have hx : chkU p x = 0 := by simpa using hx
   obtain ⟨g1, g2, g3⟩ := faultUs_sorted xs (some x) h
   unfold chkU at hx
   cases hk : keyB x.f_Key with
   | false => rw [hk] at hx; cases hx
   | true =>
    rw [hk] at hx
    simp only [Bool.not_true, cond_false] at hx
    have hlow : lowU p x = false := by
     cases hl : lowU p x with
     | false => rfl
     | true => rw [hl] at hx; cases hx
    refine ⟨fun q hq c hc => ?_, List.Pairwise.cons (fun c hc => g1 x rfl c hc) g2, fun c hc => ?_⟩
    ·subst hq
     have hqx : Lib.compareBytes q.f_Key x.f_Key < 0 := by
      simp only [lowU, Bool.or_eq_false_iff, bytesLess_is, decide_eq_false_iff_not, beq_eq_false_iff_ne] at hlow
      have h1 := cb_anti x.f_Key q.f_Key
      have h2 : Lib.compareBytes x.f_Key q.f_Key ≠ 0 := fun e => hlow.2 (cb_zero _ _ e)
      omega
     rcases List.mem_cons.1 hc with rfl | hc
     ·exact hqx
     ·exact cb_lt_trans hqx (g1 x rfl c hc)
    ·rcases List.mem_cons.1 hc with rfl | hc
     ·exact hk
     ·exact g3 c hc
theorem faultU_sorted {l : List G_Club} (h : faultU l = 0) : SortedU l ∧ ∀ c ∈ l, keyB c.f_Key = true := by
 unfold faultU at h
 cases hl : decide ((l.length : Int) > 200) with
 | true => rw [hl] at h; cases h
 | false => rw [hl] at h; exact (faultUs_sorted l none h).2
end Go.Am
