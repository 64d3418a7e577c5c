/- The plain law, in Lean alone: H4, H5. No condition: lemmas for the claim. -/
import Derived.Test.YtjnhihfahcoekaaGreatDoorPlH2
set_option linter.unusedVariables false
set_option linter.unusedSectionVars false
set_option linter.unusedSimpArgs false
set_option maxRecDepth 100000
namespace Go.Am
open Go Go.Proofs
variable [Fuel]
def keyC (c : G_Contact) : G_Contact := ⟨c.f_At, c.f_Mode, c.f_Band, c.f_Call, 0, 0, [], []⟩
def kvC (c : G_Contact) : G_Contact × G_Contact := (keyC c, c)
theorem log_key_is (c : G_Contact) (R : Type) (k : G_Contact → Option R) : log_key c k = k (keyC c) := rfl
theorem key_cmp {x y : G_Contact} : keyC x = keyC y ↔ cmpC x y = 0 := by
 rw [cmpC_zero]
 simp only [keyC, G_Contact.mk.injEq, and_true]
 constructor
 ·rintro ⟨h1, h2, h3, h4⟩; exact ⟨h1, h4, h3, h2⟩
 ·rintro ⟨h1, h2, h3, h4⟩; exact ⟨h1, h4, h3, h2⟩
abbrev OneC (l : List G_Contact) : Prop := (l.map keyC).Nodup
theorem one_eq {l : List G_Contact} (h : OneC l) {x y : G_Contact} (hx : x ∈ l) (hy : y ∈ l) (e : keyC x = keyC y) : x = y := by
 induction l with
 | nil => cases hx
 | cons c cs ih =>
  simp only [OneC, List.map_cons, List.nodup_cons] at h
  rcases List.mem_cons.1 hx with hx1 | hx1 <;> rcases List.mem_cons.1 hy with hy1 | hy1
  ·rw [hx1, hy1]
  ·subst hx1; exact absurd (List.mem_map.2 ⟨y, hy1, e.symm⟩) h.1
  ·subst hy1; exact absurd (List.mem_map.2 ⟨x, hx1, e⟩) h.1
  ·exact ih h.2 hx1 hy1
theorem faultC_one : ∀ (l : List G_Contact) (p : Option G_Contact), faultC p l = 0 → l.Pairwise (fun x y => cmpC x y < 0) ∧ ∀ q, p = some q → ∀ c ∈ l, cmpC q c < 0
 | [], p, _ => ⟨.nil, fun q _ c h => by cases h⟩
 | c :: cs, p, h => by
  have lt_trans : ∀ x y z, cmpC x y < 0 → cmpC y z < 0 → cmpC x z < 0 := fun x y z h1 h2 => by
   have a1 := ords_cmpC.trans x y z (by omega) (by omega)
   by_cases h3 : cmpC x z = 0
   ·have a2 := ords_cmpC.anti x z
    have a3 := ords_cmpC.trans z x y (by omega) (by omega)
    have a4 := ords_cmpC.anti y z
    omega
   ·omega
  unfold faultC at h
  cases hc : chk c != 0 with
  | true => rw [hc] at h; simp only [cond_true] at h; rw [h] at hc; cases hc
  | false =>
   rw [hc] at h
   simp only [cond_false] at h
   have main : faultC (some c) cs = 0 ∧ ∀ q, p = some q → cmpC q c < 0 := by
    cases p with
    | none => exact ⟨h, fun q hq => by cases hq⟩
    | some q =>
     simp only at h
     cases hd : decide (cmpC q c ≥ 0) with
     | true => rw [hd] at h; cases h
     | false => rw [hd] at h; exact ⟨h, fun q' hq => by cases hq; simpa using hd⟩
   obtain ⟨h1, h2⟩ := faultC_one cs (some c) main.1
   refine ⟨List.pairwise_cons.2 ⟨fun y hy => h2 c rfl y hy, h1⟩, fun q hq y hy => ?_⟩
   rcases List.mem_cons.1 hy with rfl | hy
   ·exact main.2 q hq
   ·exact lt_trans q c y (main.2 q hq) (h2 c rfl y hy)
theorem faultL_one {l : List G_Contact} (h : faultL l = 0) : OneC l ∧ l.length ≤ 2000 := by
 unfold faultL at h
 cases hl : decide ((l.length : Int) > 2000) with
 | true => rw [hl] at h; cases h
 | false =>
  rw [hl] at h
  refine ⟨List.pairwise_map.2 ((faultC_one l none h).1.imp (fun {x y} h e => ?_)), by simp at hl; omega⟩
  have := key_cmp.1 e
  omega
theorem aget_kv (k : G_Contact) : ∀ out : List G_Contact, aget keq_Contact k (out.map kvC) = out.find? (fun o => keq_Contact k (keyC o))
 | [] => rfl
 | o :: os => by
  simp only [List.map_cons, aget, List.find?_cons, kvC]
  rw [← aget_kv k os]
  cases keq_Contact k (keyC o) <;> rfl
theorem keq_false {x y : G_Contact} (h : x ≠ y) : keq_Contact x y = false := by
 cases hk : keq_Contact x y with
 | false => rfl
 | true => exact absurd ((keq_Contact_is x y).1 hk) h
theorem aset_new (v : G_Contact) : ∀ out : List G_Contact, (∀ o ∈ out, keyC o ≠ keyC v) → aset keq_Contact (keyC v) v (out.map kvC) = (out ++ [v]).map kvC
 | [], _ => rfl
 | o :: os, h => by
  have h1 := keq_false (Ne.symm (h o (by simp)))
  simp only [List.map_cons, aset, kvC, h1, cond_false, List.cons_append]
  have ih := aset_new v os (fun x hx => h x (by simp [hx]))
  rw [ih]
theorem adel_kv {w : G_Contact} : ∀ out : List G_Contact, OneC out → w ∈ out → adel keq_Contact (keyC w) (out.map kvC) = (out.filter (fun o => !(eq_G_Contact o w))).map kvC
 | [], _, h => by cases h
 | o :: os, h1, h => by
  simp only [OneC, List.map_cons, List.nodup_cons] at h1
  by_cases he : o = w
  ·subst he
   have hk : keq_Contact (keyC o) (keyC o) = true := (keq_Contact_is _ _).2 rfl
   have hx : eq_G_Contact o o = true := (eq_G_Contact_is _ _).2 rfl
   simp only [List.map_cons, adel, kvC, hk, cond_true, List.filter_cons, hx, Bool.not_true, Bool.false_eq_true, if_false]
   have : os.filter (fun x => !(eq_G_Contact x o)) = os := by
    rw [List.filter_eq_self]
    intro x hx
    cases hq : eq_G_Contact x o with
    | false => rfl
    | true => exact absurd (List.mem_map.2 ⟨x, hx, by rw [(eq_G_Contact_is x o).1 hq]⟩) h1.1
   rw [this]
  ·have hw : w ∈ os := by
    rcases List.mem_cons.1 h with h | h
    ·exact absurd h.symm he
    ·exact h
   have hne : keyC w ≠ keyC o := fun e => h1.1 (List.mem_map.2 ⟨w, hw, e⟩)
   have hx : eq_G_Contact o w = false := by
    cases hq : eq_G_Contact o w with
    | false => rfl
    | true => exact absurd ((eq_G_Contact_is o w).1 hq) he
   have ih := adel_kv os h1.2 hw
   simp only [List.map_cons, adel, kvC, keq_false hne, cond_false, List.filter_cons, hx, Bool.not_false, if_true]
   rw [ih]
noncomputable def leftC (out : List G_Contact) (c : G_Change) : List G_Contact := bif c.f_Kind != 1 then out.filter (fun o => !(eq_G_Contact o c.f_Was)) else out
noncomputable def okC (out : List G_Contact) (c : G_Change) : Bool := (c.f_Kind == 1 || out.any (fun o => eq_G_Contact o c.f_Was)) && (c.f_Kind == 2 || !((leftC out c).any fun o => cmpC o c.f_Is == 0))
noncomputable def nextC (out : List G_Contact) (c : G_Change) : List G_Contact := bif c.f_Kind == 2 then leftC out c else leftC out c ++ [c.f_Is]
theorem leftC_one {out : List G_Contact} (c : G_Change) (h : OneC out) : OneC (leftC out c) := by
 unfold leftC
 cases c.f_Kind != 1 with
 | true => exact h.sublist ((List.filter_sublist).map _)
 | false => exact h
theorem leftC_len (out : List G_Contact) (c : G_Change) : (leftC out c).length ≤ out.length := by
 unfold leftC
 cases c.f_Kind != 1 with
 | true => exact List.length_filter_le _ _
 | false => exact Nat.le_refl _
theorem nextC_one {out : List G_Contact} {c : G_Change} (h : OneC out) (hk : okC out c = true) : OneC (nextC out c) := by
 unfold nextC
 cases k2 : c.f_Kind == 2 with
 | true => exact leftC_one c h
 | false =>
  simp only [cond_false]
  unfold OneC
  rw [List.map_append, List.nodup_append]
  refine ⟨leftC_one c h, by simp, fun u hu v hv e => ?_⟩
  obtain ⟨x, hx, rfl⟩ := List.mem_map.1 hu
  simp only [List.map_cons, List.map_nil, List.mem_singleton] at hv
  subst hv
  unfold okC at hk
  rw [Bool.and_eq_true, k2, Bool.false_or] at hk
  have h2 := hk.2
  rw [Bool.not_eq_true', List.any_eq_false] at h2
  have := h2 x hx
  exact this (by simpa using key_cmp.1 e)
theorem any_was {out : List G_Contact} {w : G_Contact} : out.any (fun o => eq_G_Contact o w) = true ↔ w ∈ out := by
 rw [List.any_eq_true]
 constructor
 ·rintro ⟨x, hx, h⟩; rw [← (eq_G_Contact_is x w).1 h]; exact hx
 ·intro h; exact ⟨w, h, (eq_G_Contact_is w w).2 rfl⟩
theorem find_key {out : List G_Contact} (h : OneC out) (w : G_Contact) :
  (∃ o, out.find? (fun o => keq_Contact (keyC w) (keyC o)) = some o ∧ o ∈ out ∧ keyC o = keyC w) ∨ (out.find? (fun o => keq_Contact (keyC w) (keyC o)) = none ∧ ∀ o ∈ out, keyC o ≠ keyC w) := by
 cases hf : out.find? (fun o => keq_Contact (keyC w) (keyC o)) with
 | some o =>
  refine .inl ⟨o, rfl, List.mem_of_find?_eq_some hf, ?_⟩
  have := List.find?_some hf
  exact ((keq_Contact_is _ _).1 this).symm
 | none =>
  refine .inr ⟨rfl, fun o ho e => ?_⟩
  have := List.find?_eq_none.1 hf o ho
  exact this ((keq_Contact_is _ _).2 e.symm)
theorem log_change_is {out : List G_Contact} {c : G_Change} (h : OneC out) (hk : inB c.f_Kind 1 3 = true) (R : Type) (k : Bool → List (G_Contact × G_Contact) → Option R) :
  log_change (out.map kvC) c k = bif okC out c then k true ((nextC out c).map kvC) else k false (out.map kvC) := by
 have hk3 : c.f_Kind = 1 ∨ c.f_Kind = 2 ∨ c.f_Kind = 3 := by have := inB_is.1 hk; omega
 have hgw : mget_Contact_Contact (keyC c.f_Was) (out.map kvC) = out.find? (fun o => keq_Contact (keyC c.f_Was) (keyC o)) := by rw [lm_get_Contact_Contact]; exact aget_kv _ _
 have hgi : mget_Contact_Contact (keyC c.f_Is) (out.map kvC) = out.find? (fun o => keq_Contact (keyC c.f_Is) (keyC o)) := by rw [lm_get_Contact_Contact]; exact aget_kv _ _
 have eta : ∀ x : G_Contact, (⟨x.f_At, x.f_Mode, x.f_Band, x.f_Call, x.f_Sent, x.f_Heard, x.f_Gave, x.f_Got⟩ : G_Contact) = x := fun x => rfl
 simp only [log_change, log_change_, I_log_change, log_key_is, eta, hgw, hgi]
 have fw := find_key h c.f_Was
 have fi := find_key h c.f_Is
 have first : (∃ o, out.find? (fun o => keq_Contact (keyC c.f_Was) (keyC o)) = some o ∧ eq_G_Contact o c.f_Was = true ∧ c.f_Was ∈ out) ∨ ((out.find? (fun o => keq_Contact (keyC c.f_Was) (keyC o)) = none ∨ ∃ o, out.find? (fun o => keq_Contact (keyC c.f_Was) (keyC o)) = some o ∧ eq_G_Contact o c.f_Was = false) ∧ c.f_Was ∉ out) := by
  rcases fw with ⟨o, h1, h2, h3⟩ | ⟨h1, h2⟩
  ·cases he : eq_G_Contact o c.f_Was with
   | true => exact .inl ⟨o, h1, he, (eq_G_Contact_is _ _).1 he ▸ h2⟩
   | false =>
    refine .inr ⟨.inr ⟨o, h1, he⟩, fun hw => ?_⟩
    have := one_eq h h2 hw h3
    rw [(eq_G_Contact_is _ _).2 this] at he; cases he
  ·exact .inr ⟨.inl h1, fun hw => h2 _ hw rfl⟩
 rcases hk3 with hk | hk | hk
 ·-- put
  have b1 : (c.f_Kind == 1) = true := by rw [hk]; rfl
  have b2 : (c.f_Kind == 2) = false := by rw [hk]; rfl
  have b3 : (c.f_Kind != 1) = false := by rw [hk]; rfl
  have b4 : (c.f_Kind != 2) = true := by rw [hk]; rfl
  simp only [b1, b2, b3, b4, cond_true, cond_false, okC, nextC, leftC, Bool.true_or, Bool.true_and, Bool.false_or]
  rcases fi with ⟨o, h1, h2, h3⟩ | ⟨h1, h2⟩
  ·have : (out.any fun o => cmpC o c.f_Is == 0) = true := List.any_eq_true.2 ⟨o, h2, by simpa using key_cmp.1 h3⟩
   rw [h1, this]; rfl
  ·have : (out.any fun o => cmpC o c.f_Is == 0) = false := by
    rw [List.any_eq_false]; intro x hx e; exact h2 x hx (key_cmp.2 (by simpa using e))
   rw [h1, this]
   simp only [Option.isSome_none, cond_false, Bool.not_false, cond_true]
   rw [lm_set_Contact_Contact, aset_new _ _ h2]
 ·-- drop
  have b1 : (c.f_Kind == 1) = false := by rw [hk]; rfl
  have b2 : (c.f_Kind == 2) = true := by rw [hk]; rfl
  have b3 : (c.f_Kind != 1) = true := by rw [hk]; rfl
  have b4 : (c.f_Kind != 2) = false := by rw [hk]; rfl
  simp only [b1, b2, b3, b4, cond_true, cond_false, okC, nextC, leftC, Bool.false_or, Bool.true_or, Bool.and_true]
  rcases first with ⟨o, h1, h2, h3⟩ | ⟨h1, h2⟩
  ·rw [h1, any_was.2 h3]
   simp only [Option.isSome_some, Bool.not_true, cond_false, Option.getD_some, h2, cond_true]
   rw [lm_del_Contact_Contact, adel_kv _ h h3]
  ·have : (out.any fun o => eq_G_Contact o c.f_Was) = false := by
    cases hq : out.any fun o => eq_G_Contact o c.f_Was with
    | false => rfl
    | true => exact absurd (any_was.1 hq) h2
   rw [this]
   rcases h1 with h1 | ⟨o, h1, h3⟩
   ·rw [h1]; rfl
   ·rw [h1]
    simp only [Option.isSome_some, Bool.not_true, cond_false, Option.getD_some, h3, Bool.not_false, cond_true]
 ·-- set
  have b1 : (c.f_Kind == 1) = false := by rw [hk]; rfl
  have b2 : (c.f_Kind == 2) = false := by rw [hk]; rfl
  have b3 : (c.f_Kind != 1) = true := by rw [hk]; rfl
  have b4 : (c.f_Kind != 2) = true := by rw [hk]; rfl
  simp only [b1, b2, b3, b4, cond_true, cond_false, okC, nextC, leftC, Bool.false_or]
  rcases first with ⟨o, h1, h2, h3⟩ | ⟨h1, h2⟩
  ·rw [h1, any_was.2 h3]
   simp only [Option.isSome_some, Bool.not_true, cond_false, Option.getD_some, h2, Bool.true_and]
   have hdel : mdel_Contact_Contact (keyC c.f_Was) (out.map kvC) = (out.filter (fun o => !(eq_G_Contact o c.f_Was))).map kvC := by rw [lm_del_Contact_Contact, adel_kv _ h h3]
   have hmem : ∀ x, x ∈ out.filter (fun o => !(eq_G_Contact o c.f_Was)) ↔ x ∈ out ∧ x ≠ c.f_Was := fun x => by
    rw [List.mem_filter, Bool.not_eq_true']
    constructor
    ·rintro ⟨a, b⟩; exact ⟨a, fun e => by rw [(eq_G_Contact_is _ _).2 e] at b; cases b⟩
    ·rintro ⟨a, b⟩
     refine ⟨a, ?_⟩
     cases hq : eq_G_Contact x c.f_Was with
     | false => rfl
     | true => exact absurd ((eq_G_Contact_is _ _).1 hq) b
   rw [hdel]
   have hnew : (∀ x ∈ out, x ≠ c.f_Was → keyC x ≠ keyC c.f_Is) → mset_Contact_Contact (keyC c.f_Is) c.f_Is ((out.filter (fun o => !(eq_G_Contact o c.f_Was))).map kvC) = ((out.filter (fun o => !(eq_G_Contact o c.f_Was))) ++ [c.f_Is]).map kvC := fun hh => by
    rw [lm_set_Contact_Contact, aset_new]
    intro x hx
    have := (hmem x).1 hx
    exact hh x this.1 this.2
   have hany : (∀ x ∈ out, x ≠ c.f_Was → keyC x ≠ keyC c.f_Is) → ((out.filter (fun o => !(eq_G_Contact o c.f_Was))).any fun o => cmpC o c.f_Is == 0) = false := fun hh => by
    rw [List.any_eq_false]
    intro x hx e
    have := (hmem x).1 hx
    exact hh x this.1 this.2 (key_cmp.2 (by simpa using e))
   rcases fi with ⟨q, h4, h5, h6⟩ | ⟨h4, h5⟩
   ·rw [h4]
    simp only [Option.isSome_some, cond_true]
    cases hq : eq_G_Contact (keyC c.f_Is) (keyC c.f_Was) with
    | true =>
     have hkk := (eq_G_Contact_is _ _).1 hq
     have hh : ∀ x ∈ out, x ≠ c.f_Was → keyC x ≠ keyC c.f_Is := fun x hx hne e => hne (one_eq h hx h3 (e.trans hkk))
     rw [hany hh, hnew hh]; rfl
    | false =>
     have : ((out.filter (fun o => !(eq_G_Contact o c.f_Was))).any fun o => cmpC o c.f_Is == 0) = true := by
      refine List.any_eq_true.2 ⟨q, (hmem q).2 ⟨h5, fun e => ?_⟩, by simpa using key_cmp.1 h6⟩
      rw [e] at h6
      rw [(eq_G_Contact_is _ _).2 h6.symm] at hq; cases hq
     rw [this]; rfl
   ·have hh : ∀ x ∈ out, x ≠ c.f_Was → keyC x ≠ keyC c.f_Is := fun x hx _ => h5 x hx
    rw [h4, hany hh, hnew hh]; rfl
  ·have : (out.any fun o => eq_G_Contact o c.f_Was) = false := by
    cases hq : out.any fun o => eq_G_Contact o c.f_Was with
    | false => rfl
    | true => exact absurd (any_was.1 hq) h2
   rw [this, Bool.false_and]
   rcases h1 with h1 | ⟨o, h1, h3⟩
   ·rw [h1]; rfl
   ·rw [h1]
    simp only [Option.isSome_some, Bool.not_true, cond_false, Option.getD_some, h3, Bool.not_false, cond_true]
end Go.Am
set_option linter.unusedVariables false
set_option linter.unusedSectionVars false
set_option linter.unusedSimpArgs false
set_option maxRecDepth 100000
namespace Go.Am
open Go Go.Proofs
variable [Fuel]
noncomputable def runC : Nat → List G_Contact → List Int → List G_Change → List G_Contact × List Int
 | _, out, r, [] => (out, r)
 | i, out, r, c :: cs => bif okC out c then runC (i + 1) (nextC out c) r cs else runC (i + 1) out (r ++ [(i : Int)]) cs
theorem nextC_len (out : List G_Contact) (c : G_Change) : (nextC out c).length ≤ out.length + 1 := by
 have := leftC_len out c
 unfold nextC
 cases c.f_Kind == 2 <;> simp <;> omega
theorem runC_len : ∀ (cs : List G_Change) (i : Nat) (out : List G_Contact) (r : List Int), (runC i out r cs).1.length ≤ out.length + cs.length ∧ (runC i out r cs).2.length ≤ r.length + cs.length
 | [], i, out, r => by simp [runC]
 | c :: cs, i, out, r => by
  have h1 := runC_len cs (i + 1) (nextC out c) r
  have h2 := runC_len cs (i + 1) out (r ++ [(i : Int)])
  have h3 := nextC_len out c
  simp at h2
  unfold runC
  cases okC out c <;> simp <;> omega
theorem runC_one : ∀ (cs : List G_Change) (i : Nat) (out : List G_Contact) (r : List Int), OneC out → OneC (runC i out r cs).1
 | [], i, out, r, h => h
 | c :: cs, i, out, r, h => by
  unfold runC
  cases hk : okC out c with
  | true => exact runC_one cs _ _ _ (nextC_one h hk)
  | false => exact runC_one cs _ _ _ h
theorem z12z_L9_is (d : List G_Change) (l : List G_Contact) (hl : l.length ≤ 100000) (h1 : OneC l) : ∀ (xs pre : List G_Contact) (n i : Nat), l.drop i = xs → l = pre ++ xs → xs.length < n → ∀ (R : Type) (e0 : List G_Change → List (G_Contact × G_Contact) → Option R),
  z12z_L9 I_z12z n d l (l.length : Int) (i : Int) (pre.map kvC) e0 = e0 d (l.map kvC)
 | _, _, 0, _, _, _, h, _, _ => by omega
 | [], pre, n + 1, i, h, hp, _, R, e0 => by
  rw [List.append_nil] at hp
  rw [z12z_L9, ge_drop h, hp]; rfl
 | x :: xs, pre, n + 1, i, h, hp, hn, R, e0 => by
  have h' := drop_cons h
  have ih := z12z_L9_is d l hl h1 xs (pre ++ [x]) n (i + 1) h'.2.2.1 (by rw [hp]; simp) (by simp at hn; omega) R e0
  have hnew : ∀ o ∈ pre, keyC o ≠ keyC x := fun o ho e => by
   rw [hp] at h1
   unfold OneC at h1
   rw [List.map_append, List.nodup_append] at h1
   exact h1.2.2 (keyC o) (List.mem_map.2 ⟨o, ho, rfl⟩) (keyC x) (by simp) e
  rw [z12z_L9, lt_drop h]
  simp only [I_z12z] at ih
  simp only [cond_true, get_drop h, I_z12z, log_key_is]
  rw [lm_set_Contact_Contact, aset_new _ _ hnew, w64_succ (by omega)]
  exact ih
theorem z12z_L15_is (d : List G_Change) (hd : ∀ c ∈ d, inB c.f_Kind 1 3 = true) (hl : d.length ≤ 100000) : ∀ (xs : List G_Change) (n i : Nat) (out : List G_Contact) (r : List Int), d.drop i = xs → OneC out → xs.length < n → r.length ≤ i → ∀ (R : Type) (e0 : List (G_Contact × G_Contact) → List Int → Option R),
  z12z_L15 I_z12z n d (d.length : Int) (i : Int) (out.map kvC) r e0 = e0 ((runC i out r xs).1.map kvC) (runC i out r xs).2
 | _, 0, _, _, _, _, _, h, _, _, _ => by omega
 | [], n + 1, i, out, r, h, _, _, _, R, e0 => by rw [z12z_L15, ge_drop h]; rfl
 | c :: cs, n + 1, i, out, r, h, ho, hn, hr, R, e0 => by
  have h' := drop_cons h
  have ih1 := fun hk => z12z_L15_is d hd hl cs n (i + 1) (nextC out c) r h'.2.2.1 (nextC_one ho hk) (by simp at hn; omega) (by omega) R e0
  have ih2 := z12z_L15_is d hd hl cs n (i + 1) out (r ++ [(i : Int)]) h'.2.2.1 ho (by simp at hn; omega) (by simp; omega) R e0
  rw [z12z_L15, lt_drop h]
  simp only [I_z12z] at ih1 ih2
  simp only [cond_true, get_drop h, I_z12z, log_change_is ho (hd c (mem_drop h)), runC, room1 r (i : Int) 8 (by omega) (by omega), w64_succ (show i < 4611686018427387904 by omega)]
  cases hk : okC out c with
  | true => exact ih1 hk
  | false => exact ih2
theorem z12z_L24_is {R : Type} (y : Option R) (m : List (G_Contact × G_Contact)) (r : List Int) (e0 : List Int → List G_Contact → Option R) : ∀ (n : Nat) (left : List (G_Contact × G_Contact)) (out : List G_Contact), left.length < n → out.length + left.length ≤ 1000000 → (∀ o, o.Perm (out ++ left.map (·.2)) → e0 r o = y) →
  z12z_L24 I_z12z n m left r out e0 = y
 | 0, _, _, h, _, _ => by omega
 | n + 1, [], out, _, _, he => by
  rw [z12z_L24, pickAll_nil]
  exact he out (by simp)
 | n + 1, x :: xs, out, h, hl, he => by
  rw [z12z_L24]
  refine pickAll_same (by simp) (fun p hp => ?_)
  have hpm := picks_perm hp
  have hlen := hpm.length_eq
  simp at hlen
  simp at h hl
  simp only [room1 out p.1.2 96 (by omega) (by omega), cond_true]
  refine z12z_L24_is y m r e0 n p.2 (out ++ [p.1.2]) (by omega) (by simp; omega) (fun o ho => he o (ho.trans ?_))
  rw [List.append_assoc]
  exact (List.Perm.append_left out (by simpa using hpm.map (·.2)))
theorem sortfC_cmp {l : List G_Contact} (h : OneC l) (hl : l.length ≤ 100000) (R : Type) (k : List G_Contact → Option R) : z26z l k = k (sortI cmpC l) :=
 X_sortf_one ords_cmpC (by omega) (fun x hx y hy e => one_eq h hx hy (key_cmp.2 e)) (fun x _ y _ => z6z_is x y) k
noncomputable def changedC (l : List G_Contact) (c : List G_Change) : List G_Contact × List Int × Int :=
 bif decide (((runC 0 l [] c).1.length : Int) > 2000) then ([], [], 2) else (sortI cmpC (runC 0 l [] c).1, (runC 0 l [] c).2, 0)
theorem raw_z12z_is {l : List G_Contact} {c : List G_Change} (hf : ∀ x ∈ l, Fine x) (hc : ∀ x ∈ c, FineH x) (hl : l.length ≤ 1000) (hcl : c.length ≤ 1000) (R : Type) (k : List G_Contact → List Int → Int → Option R) :
  raw_z12z I_z12z l c k = bif orL [faultL l, faultH c] != 0 then k [] [] (orL [faultL l, faultH c]) else k (changedC l c).1 (changedC l c).2.1 (changedC l c).2.2 := by
 have hNN := NN_ok
 simp only [raw_z12z, z13z_is hf (show l.length ≤ 100000 by omega), z30z_is hc (show c.length ≤ 100000 by omega), I_z12z, orL]
 cases h1 : faultL l != 0 with
 | true => simp only [cond_true, h1]
 | false =>
  simp only [cond_false]
  cases h2 : faultH c != 0 with
  | true => simp only [cond_true, h2]
  | false =>
   simp only [cond_false, bne_self_eq_false]
   have z1 : faultL l = 0 := by simpa using h1
   have z2 : faultH c = 0 := by simpa using h2
   obtain ⟨o1, _⟩ := faultL_one z1
   obtain ⟨_, _, o2⟩ := faultH_inc z2
   have hk : ∀ x ∈ c, inB x.f_Kind 1 3 = true := fun x hx => by
    obtain ⟨q, hq⟩ := o2 x hx
    exact (chkH_zero hq).kind
   have hone := runC_one c 0 l [] o1
   have hlen := runC_len c 0 l []
   have e9 := fun (e0 : List G_Change → List (G_Contact × G_Contact) → Option R) => z12z_L9_is c l (by omega) o1 l [] NN 0 rfl rfl (by omega) R e0
   have e15 := fun (e0 : List (G_Contact × G_Contact) → List Int → Option R) => z12z_L15_is c hk (by omega) c NN 0 l [] rfl o1 (by omega) (by simp) R e0
   have e24 : z12z_L24 I_z12z NN ((runC 0 l [] c).1.map kvC) ((runC 0 l [] c).1.map kvC) (runC 0 l [] c).2 [] (fun e37 e38 => z26z e38 (fun r39 => k r39 e37 0)) = k (sortI cmpC (runC 0 l [] c).1) (runC 0 l [] c).2 0 := by
    refine z12z_L24_is _ _ _ _ NN _ [] (by simp at hlen ⊢; omega) (by simp at hlen ⊢; omega) (fun o ho => ?_)
    have hmap : ((runC 0 l [] c).1.map kvC).map (·.2) = (runC 0 l [] c).1 := by
     rw [List.map_map]
     have : ((fun x : G_Contact × G_Contact => x.2) ∘ kvC) = id := rfl
     rw [this, List.map_id]
    rw [hmap, List.nil_append] at ho
    have ho1 : OneC o := (ho.map keyC).nodup_iff.2 hone
    have hol := ho.length_eq
    simp at hlen
    rw [sortfC_cmp ho1 (by omega), sortI_perm_one ords_cmpC (fun x hx y hy e => one_eq hone hx hy (key_cmp.2 e)) ho]
   simp only [I_z12z] at e9 e15 e24
   have z0 : ((0 : Nat) : Int) = 0 := rfl
   rw [z0] at e9 e15
   simp only [List.map_nil] at e9
   rw [e9, e15]
   unfold changedC
   simp only [List.length_map]
   cases decide (((runC 0 l [] c).1.length : Int) > 2000) with
   | true => rfl
   | false => exact e24
theorem z12z_is {l : List G_Contact} {c : List G_Change} (hf : ∀ x ∈ l, Fine x) (hc : ∀ x ∈ c, FineH x) (hl : l.length ≤ 1000) (hcl : c.length ≤ 1000) (R : Type) (k : List G_Contact → List Int → Int → Option R) :
  z12z l c k = bif orL [faultL l, faultH c] != 0 then k [] [] (orL [faultL l, faultH c]) else k (changedC l c).1 (changedC l c).2.1 (changedC l c).2.2 := by
 show (raw_z12z I_z12z l c (fun z0 z1 z2 => some (inj0_z12z (z0, z1, z2)))).bind _ = _
 rw [raw_z12z_is hf hc hl hcl]
 cases orL [faultL l, faultH c] != 0 <;> rfl
end Go.Am
