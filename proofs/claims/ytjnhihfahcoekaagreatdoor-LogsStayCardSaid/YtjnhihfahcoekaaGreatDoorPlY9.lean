/- The plain law, in Lean alone: Y9. No condition: lemmas for the claim. -/
import Derived.Test.YtjnhihfahcoekaaGreatDoorPlY4
set_option linter.unusedVariables false
set_option linter.unusedSectionVars false
set_option linter.unusedSimpArgs false
set_option maxRecDepth 100000
namespace Go.Am
open Go Go.Proofs
variable [Fuel]
theorem spoilC_loop : ∀ (j n i : Nat) (l : List G_Contact) (z : G_Contact), i + j = l.length → j < n → l.length ≤ 100000 → ∃ l' : List G_Contact, ∀ (R : Type) (e0 : List G_Contact → Option R), z44z_L2 NN n (l.length : Int) (i : Int) l z e0 = e0 l'
 | _, 0, _, _, _, _, h, _ => by omega
 | 0, n + 1, i, l, z, hi, _, _ => ⟨l, fun R e0 => by rw [z44z_L2, decide_eq_false (by omega)]; rfl⟩
 | j + 1, n + 1, i, l, z, hi, hn, hl => by
  have hil : i < l.length := by omega
  obtain ⟨l', g⟩ := spoilC_loop j n (i + 1) (l.set i z) z (by simp; omega) (by omega) (by simpa using hl)
  refine ⟨l', fun R e0 => ?_⟩
  have g' := g R e0
  rw [List.length_set] at g'
  rw [z44z_L2, decide_eq_true (by omega)]
  simp only [cond_true, inr_nat hil, at_nat (List.getElem?_eq_getElem hil), w64_succ (show i < 4611686018427387904 by omega), set_nat]
  exact g'
theorem spoilC_gives {l : List G_Contact} (hl : l.length ≤ 100000) : ∃ l' : List G_Contact, ∀ (R : Type) (k : List G_Contact → Option R), z44z l k = k l' := by
 obtain ⟨l', g⟩ := spoilC_loop l.length NN 0 l ⟨0, 0, [], [], 0, 0, [], []⟩ (by omega) (by have := NN_ok; omega) hl
 exact ⟨l', fun R k => g R _⟩
theorem CheckLog_nil (R : Type) (k : Int → Option R) : z54z k = k 0 := by
 obtain ⟨m, e, hm⟩ := NN_succ
 show z54z_L4 NN NN 0 0 (k 0) = k 0
 rw [show z54z_L4 NN NN 0 0 (k 0) = z54z_L4 NN (m + 1) 0 0 (k 0) by rw [← e]]
 rfl
theorem MergeN_loop (l : List G_Contact) (hl : l.length ≤ 100000) : ∀ (j n i : Nat), 1 ≤ i → i + j = l.length + 1 → j < n + 1 → 0 < n →
  (∀ (R : Type) (e0 : Int → List G_Contact → Option R) (e1 : List G_Contact → Option R), z43z_L8 I_z43z n (i : Int) l e0 e1 = e0 13 l) ∨ (∀ (R : Type) (e0 : Int → List G_Contact → Option R) (e1 : List G_Contact → Option R), z43z_L8 I_z43z n (i : Int) l e0 e1 = e1 l)
 | _, 0, _, _, _, _, h => by omega
 | 0, n + 1, i, h1, hi, _, _ => .inr fun R e0 e1 => by rw [z43z_L8, decide_eq_false (by omega)]; rfl
 | 1, n + 1, i, h1, hi, _, _ => .inr fun R e0 e1 => by rw [z43z_L8, decide_eq_false (by omega)]; rfl
 | j + 2, n + 1, i, h1, hi, hn, _ => by
  have hil : i < l.length := by omega
  have hil1 : i - 1 < l.length := by omega
  have ih := MergeN_loop l hl (j + 1) n (i + 1) (by omega) (by omega) (by omega) (by omega)
  have step : ∀ (R : Type) (e0 : Int → List G_Contact → Option R) (e1 : List G_Contact → Option R), z43z_L8 I_z43z (n + 1) (i : Int) l e0 e1 = bif cmpC l[i - 1] l[i] == 0 then e0 13 l else z43z_L8 I_z43z n ((i + 1 : Nat) : Int) l e0 e1 := fun R e0 e1 => by
   rw [z43z_L8, decide_eq_true (by omega)]
   simp only [cond_true, w64_pred (show i < 4611686018427387904 by omega) (by omega), inr_nat hil, inr_nat hil1, at_nat (List.getElem?_eq_getElem hil), at_nat (List.getElem?_eq_getElem hil1), w64_succ (show i < 4611686018427387904 by omega)]
   have hc : ∀ k : Int → Option R, I_z43z.z6z l[i - 1] l[i] k = k (cmpC l[i - 1] l[i]) := fun k => z6z_is _ _ R k
   rw [hc]
  cases hb : cmpC l[i - 1] l[i] == 0 with
  | true => exact .inl fun R e0 e1 => by rw [step, hb]; rfl
  | false => exact ih.imp (fun h R e0 e1 => by rw [step, hb]; exact h R e0 e1) (fun h R e0 e1 => by rw [step, hb]; exact h R e0 e1)
theorem MergeN_gives {x : List G_Contact} (hx : ∀ c ∈ x, Fine c) (hl : x.length ≤ 20) : ∃ (r : List G_Contact) (e : Int), r.length ≤ 20 ∧ ∀ (R : Type) (k : List G_Contact → Int → Option R), z43z x k = k r e := by
 have a1 : ∀ {R : Type} (k : Int → Option R), I_z69z.z13z x k = k (faultL x) := fun {R} k => z13z_is hx (by omega) R k
 have a2 : ∀ {R : Type} (k : Int → Option R), I_z69z.z54z k = k 0 := fun {R} k => CheckLog_nil R k
 have hb : ∀ {R : Type} (k : Int → Option R), I_z43z.z69z x k = k (faultL x) := fun {R} k => by
  show z69z_ I_z69z x k = _
  simp only [z69z_, a1, a2]
  cases h : faultL x != 0 with
  | true => rfl
  | false =>
   have : faultL x = 0 := by simpa using h
   rw [this]; rfl
 cases h : faultL x != 0 with
 | true => exact ⟨[], faultL x, by simp, fun R k => by simp only [z43z, z43z_, hb, h, cond_true]⟩
 | false =>
  have c1 : ∀ {R : Type} (k : List G_Contact → Option R), I_z43z.z10z [x, []] k = k (x ++ []) := fun {R} k => catC_is (by omega) (by simp) R k
  have c2 : ∀ {R : Type} (k : List G_Contact → Option R), I_z43z.z25z (x ++ []) k = k (sortI cmpC (x ++ [])) := fun {R} k => sortC_cmp (by simp; omega) R k
  have hsl : (sortI cmpC (x ++ [])).length = x.length := by rw [sortI_length]; simp
  have c3 : ∀ {R : Type} (k : List G_Contact → Option R), I_z43z.z16z (sortI cmpC (x ++ [])) k = k (compactP eq_G_Contact (sortI cmpC (x ++ []))) := fun {R} k => compC_is (by omega) R k
  have hml : (compactP eq_G_Contact (sortI cmpC (x ++ []))).length ≤ 20 := by
   have := compactP_len eq_G_Contact (sortI cmpC (x ++ []))
   omega
  generalize compactP eq_G_Contact (sortI cmpC (x ++ [])) = m at c3 hml
  rcases MergeN_loop m (by omega) m.length NN 1 (by omega) (by omega) (by have := NN_ok; omega) (by have := NN_ok; omega) with g | g
  ·exact ⟨[], 13, by simp, fun R k => by
    have g' : ∀ (e0 : Int → List G_Contact → Option R) (e1 : List G_Contact → Option R), z43z_L8 I_z43z I_z43z.N 1 m e0 e1 = e0 13 m := fun e0 e1 => g R e0 e1
    simp only [z43z, z43z_, hb, h, cond_false, c1, c2, c3, g']⟩
  ·exact ⟨m, 0, hml, fun R k => by
    have g' : ∀ (e0 : Int → List G_Contact → Option R) (e1 : List G_Contact → Option R), z43z_L8 I_z43z I_z43z.N 1 m e0 e1 = e1 m := fun e0 e1 => g R e0 e1
    simp only [z43z, z43z_, hb, h, cond_false, c1, c2, c3, g', decide_eq_false (show ¬ (m.length : Int) > 2000 by omega)]⟩
theorem Renumber5_loop (L : Nat) (hL : L ≤ 1000) : ∀ (xs pre : List G_Contact) (n : Nat), pre.length + xs.length = L → xs.length < n → ∃ r : List G_Contact, r.length = L ∧ ∀ (R : Type) (e0 : List G_Contact → Option R),
  z51z_L8 I_z51z n 5 (L : Int) (pre.length : Int) (pre ++ xs) e0 = e0 r
 | _, _, 0, _, h => by omega
 | [], pre, n + 1, hp, _ => ⟨pre, by simpa using hp, fun R e0 => by rw [z51z_L8, decide_eq_false (by simp at hp; omega)]; simp⟩
 | c :: cs, pre, n + 1, hp, hn => by
  simp only [List.length_cons] at hp hn
  obtain ⟨r, r1, r2⟩ := Renumber5_loop L hL cs (pre ++ [⟨c.f_At, c.f_Mode, c.f_Band, c.f_Call, 5 + (pre.length : Int), c.f_Heard, c.f_Gave, c.f_Got⟩]) n (by simp; omega) (by omega)
  refine ⟨r, r1, fun R e0 => ?_⟩
  have hin : ∀ {R : Type} (k : Option R), inr (pre ++ c :: cs) (pre.length : Int) k = k := fun k => inr_nat (by simp) k
  have hat : ∀ {R : Type} (k : G_Contact → Option R), at_ (pre ++ c :: cs) (pre.length : Int) k = k c := fun k => at_nat (by simp) k
  rw [z51z_L8, decide_eq_true (by omega)]
  simp only [cond_true, hin, hat, w64_succ (show pre.length < 4611686018427387904 by omega), set_nat, set_mid, w64_eq (x := 5 + (pre.length : Int)) (by omega) (by omega)]
  have e2 : pre ++ (⟨c.f_At, c.f_Mode, c.f_Band, c.f_Call, 5 + (pre.length : Int), c.f_Heard, c.f_Gave, c.f_Got⟩ : G_Contact) :: cs = pre ++ [⟨c.f_At, c.f_Mode, c.f_Band, c.f_Call, 5 + (pre.length : Int), c.f_Heard, c.f_Gave, c.f_Got⟩] ++ cs := by simp
  have e3 : ((pre.length + 1 : Nat) : Int) = ((pre ++ [(⟨c.f_At, c.f_Mode, c.f_Band, c.f_Call, 5 + (pre.length : Int), c.f_Heard, c.f_Gave, c.f_Got⟩ : G_Contact)]).length : Int) := by simp
  rw [e2, e3]
  exact r2 R e0
theorem Renumber5_gives {l : List G_Contact} (hf : ∀ c ∈ l, Fine c) (hl : l.length ≤ 100) : ∃ (r : List G_Contact) (e : Int), r.length ≤ 100 ∧ ∀ (R : Type) (k : List G_Contact → Int → Option R), z51z l 5 k = k r e := by
 have a1 : ∀ {R : Type} (k : Int → Option R), I_z51z.z13z l k = k (faultL l) := fun {R} k => z13z_is hf (by omega) R k
 have a2 : ∀ {R : Type} (k : Bool → Option R), I_z51z.z45z 5 1 99999 k = k false := fun {R} k => z45z_is 5 1 99999 R k
 have a3 : ∀ {R : Type} (k : List G_Contact → Option R), I_z51z.z70z l k = k l := fun {R} k => cloneC_is (by omega) R k
 obtain ⟨r, r1, r2⟩ := Renumber5_loop l.length (by omega) l [] NN (by simp) (by have := NN_ok; omega)
 cases h : faultL l != 0 with
 | true => exact ⟨[], faultL l, by simp, fun R k => by simp only [z51z, z51z_, a1, h, cond_true]⟩
 | false =>
  refine ⟨r, 0, by omega, fun R k => ?_⟩
  have a4 : ∀ e0 : List G_Contact → Option R, z51z_L8 I_z51z I_z51z.N 5 (l.length : Int) 0 l e0 = e0 r := fun e0 => r2 R e0
  simp only [z51z, z51z_, a1, h, cond_false, a2, w64_eq (x := 5 + (l.length : Int)) (by omega) (by omega), w64_eq (x := 5 + (l.length : Int) - 1) (by omega) (by omega), decide_eq_false (show ¬ 5 + (l.length : Int) - 1 > 99999 by omega), a3, a4]
theorem WithoutN_loop (l : List G_Contact) (m : List (G_Contact × Bool)) (hl : l.length ≤ 100000) : ∀ (xs : List G_Contact) (n i : Nat) (out : List G_Contact), l.drop i = xs → xs.length < n → out.length + xs.length ≤ 100000 →
  ∃ r : List G_Contact, r.length ≤ out.length + xs.length ∧ ∀ (R : Type) (e0 : List G_Contact → Option R), z40z_L9 NN n l (l.length : Int) (i : Int) m out e0 = e0 r
 | _, 0, _, _, _, h, _ => by omega
 | [], n + 1, i, out, h, _, _ => ⟨out, by simp, fun R e0 => by rw [z40z_L9, ge_drop h]; rfl⟩
 | c :: cs, n + 1, i, out, h, hn, ho => by
  have h' := drop_cons h
  simp only [List.length_cons] at hn ho
  have hw : w64 ((i : Int) + 1) = ((i + 1 : Nat) : Int) := w64_succ (by have := h'.2.1; omega)
  cases hb : (!((mget_Contact_bool c m).getD false)) with
  | true =>
   obtain ⟨r, r1, r2⟩ := WithoutN_loop l m hl cs n (i + 1) (out ++ [c]) h'.2.2.1 (by omega) (by simp; omega)
   refine ⟨r, by simp at r1 ⊢; omega, fun R e0 => ?_⟩
   rw [z40z_L9, lt_drop h]
   simp only [cond_true, get_drop h, hb, room1 out _ 96 (show out.length ≤ 1000000 by omega) (by omega), hw]
   exact r2 R e0
  | false =>
   obtain ⟨r, r1, r2⟩ := WithoutN_loop l m hl cs n (i + 1) out h'.2.2.1 (by omega) (by omega)
   refine ⟨r, by simp at r1 ⊢; omega, fun R e0 => ?_⟩
   rw [z40z_L9, lt_drop h]
   simp only [cond_true, get_drop h, hb, cond_false, hw]
   exact r2 R e0
theorem LacksN_gives {x : List G_Contact} (hx : ∀ c ∈ x, Fine c) (hl : x.length ≤ 20) : ∃ (r : List G_Contact) (e : Int), r.length ≤ 20 ∧ ∀ (R : Type) (k : List G_Contact → Int → Option R), z82z x k = k r e := by
 have a1 : ∀ {R : Type} (k : Int → Option R), I_z71z.z13z x k = k (faultL x) := fun {R} k => z13z_is hx (by omega) R k
 have a2 : ∀ {R : Type} (k : Int → Option R), I_z71z.z54z k = k 0 := fun {R} k => CheckLog_nil R k
 have hb : ∀ {R : Type} (k : Int → Option R), I_z82z.z71z x k = k (faultL x) := fun {R} k => by
  show z71z_ I_z71z x k = _
  simp only [z71z_, a1, a2, bne_self_eq_false, cond_false]
 obtain ⟨r, r1, r2⟩ := WithoutN_loop x [] (by omega) x NN 0 [] rfl (by have := NN_ok; omega) (by simp; omega)
 have hw : ∀ {R : Type} (k : List G_Contact → Option R), I_z82z.z40z x k = k r := fun {R} k => by
  obtain ⟨m, e, hm⟩ := NN_succ
  show z40z_L3 NN NN x 0 0 [] (fun e6 e7 => z40z_L9 NN NN e6 (e6.length : Int) 0 e7 [] (fun e15 => k e15)) = k r
  have h3 : ∀ e0 : List G_Contact → List (G_Contact × Bool) → Option R, z40z_L3 NN NN x 0 0 [] e0 = e0 x [] := fun e0 => by
   rw [show z40z_L3 NN NN x 0 0 [] e0 = z40z_L3 NN (m + 1) x 0 0 [] e0 by rw [← e]]
   rfl
  rw [h3]
  exact r2 R _
 cases h : faultL x != 0 with
 | true => exact ⟨[], faultL x, by simp, fun R k => by simp only [z82z, z82z_, hb, h, cond_true]⟩
 | false => exact ⟨r, 0, by simp at r1; omega, fun R k => by simp only [z82z, z82z_, hb, h, cond_false, hw]⟩
theorem changedC_len (l : List G_Contact) (c : List G_Change) : (changedC l c).1.length ≤ 2000 := by
 unfold changedC
 cases h : decide (((runC 0 l [] c).1.length : Int) > 2000) with
 | true => simp
 | false =>
  have := of_decide_eq_false h
  simp only [cond_false, sortI_length]
  omega
theorem keep_LogsStay_true (l : List Int) (R : Type) (k : Bool → Option R) : keep_LogsStay l k = k true := by
 obtain ⟨x, s1, z1, lx, hx, fx, e1⟩ := z24z_gives (sOk0 l) (by omega) 8 (by omega)
 obtain ⟨c, s2, z2, lc, hc, e2⟩ := z20z_gives (l := x) (by omega) (fun y hy => ⟨(hx y hy).1, (hx y hy).2.1⟩) z1 (by omega)
 have fxx : ∀ y ∈ x, Fine y := fun y hy => (hx y hy).1
 have fcc : ∀ y ∈ c, FineH y := fun y hy => (hc y hy).1
 have e1' : ∀ k : List G_Contact → G_Stream → Option R, z24z ⟨l, 0⟩ 8 k = k x s1 := fun k => e1 R k
 obtain ⟨m1, n1, p1, q1⟩ := MergeN_gives fxx (by omega)
 obtain ⟨t1, u1⟩ := spoilC_gives (l := m1) (by omega)
 obtain ⟨m2, n2, p2, q2⟩ := Renumber5_gives fxx (by omega)
 obtain ⟨t2, u2⟩ := spoilC_gives (l := m2) (by omega)
 obtain ⟨m3, n3, p3, q3⟩ := LacksN_gives fxx (by omega)
 obtain ⟨t3, u3⟩ := spoilC_gives (l := m3) (by omega)
 have hch : ∃ (r : List G_Contact) (n : List Int) (e : Int), r.length ≤ 2000 ∧ ∀ (R : Type) (k : List G_Contact → List Int → Int → Option R), z12z x c k = k r n e := by
  cases h : orL [faultL x, faultH c] != 0 with
  | true => exact ⟨[], [], orL [faultL x, faultH c], by simp, fun R k => by rw [z12z_is fxx fcc (by omega) (by omega), h]; rfl⟩
  | false => exact ⟨_, _, _, changedC_len x c, fun R k => by rw [z12z_is fxx fcc (by omega) (by omega), h]; rfl⟩
 obtain ⟨m4, n4, o4, p4, q4⟩ := hch
 obtain ⟨t4, u4⟩ := spoilC_gives (l := m4) (by omega)
 have f1 : ∀ k : Bool → Option R, z38z x x k = k true := fun k => equalC_is (by omega) R k
 have f2 : ∀ k : Bool → Option R, z42z c c k = k true := fun k => equalH_is (by omega) R k
 simp only [keep_LogsStay, keep_LogsStay_, I_keep_LogsStay, e1', e2, q1, u1, q2, u2, q3, u3, q4, u4, f1, f2, cond_true]
 exact keep_ready_is R k
end Go.Am
