/- The plain law, in Lean alone: H4, H5, H6. No condition: lemmas for the claim. -/
import Derived.Test.YtecelackdggokaaGreatDoorPlH1
set_option linter.unusedVariables false
set_option linter.unusedSectionVars false
set_option linter.unusedSimpArgs false
set_option maxRecDepth 100000
namespace Go.Am
open Go Go.Proofs
variable [Fuel]
def keyC (c : G_Contact) : G_Contact := ⟨c.f_At, c.f_Mode, c.f_Band, c.f_Call, 0, 0, [], []⟩
def kvC (c : G_Contact) : G_Contact × G_Contact := (keyC c, c)
theorem log_key_is (c : G_Contact) (R : Type) (k : G_Contact → Option R) : log_key c k = k (keyC c) := rfl
theorem key_cmp {x y : G_Contact} : keyC x = keyC y ↔ cmpC x y = 0 := by
  rw [cmpC_zero]
  simp only [keyC, G_Contact.mk.injEq, and_true]
  constructor
  · rintro ⟨h1, h2, h3, h4⟩; exact ⟨h1, h4, h3, h2⟩
  · rintro ⟨h1, h2, h3, h4⟩; exact ⟨h1, h4, h3, h2⟩
abbrev OneC (l : List G_Contact) : Prop := (l.map keyC).Nodup
theorem one_eq {l : List G_Contact} (h : OneC l) {x y : G_Contact} (hx : x ∈ l) (hy : y ∈ l) (e : keyC x = keyC y) : x = y := by
  induction l with
  | nil => cases hx
  | cons c cs ih =>
    simp only [OneC, List.map_cons, List.nodup_cons] at h
    rcases List.mem_cons.1 hx with hx1 | hx1 <;> rcases List.mem_cons.1 hy with hy1 | hy1
    · rw [hx1, hy1]
    · subst hx1; exact absurd (List.mem_map.2 ⟨y, hy1, e.symm⟩) h.1
    · subst hy1; exact absurd (List.mem_map.2 ⟨x, hx1, e⟩) h.1
    · exact ih h.2 hx1 hy1
theorem faultC_one : ∀ (l : List G_Contact) (p : Option G_Contact), faultC p l = 0 → l.Pairwise (fun x y => cmpC x y < 0) ∧ ∀ q, p = some q → ∀ c ∈ l, cmpC q c < 0
  | [], p, _ => ⟨.nil, fun q _ c h => by cases h⟩
  | c :: cs, p, h => by
    have lt_trans : ∀ x y z, cmpC x y < 0 → cmpC y z < 0 → cmpC x z < 0 := fun x y z h1 h2 => by
      have a1 := ords_cmpC.trans x y z (by omega) (by omega)
      by_cases h3 : cmpC x z = 0
      · have a2 := ords_cmpC.anti x z
        have a3 := ords_cmpC.trans z x y (by omega) (by omega)
        have a4 := ords_cmpC.anti y z
        omega
      · omega
    unfold faultC at h
    cases hc : chk c != 0 with
    | true => rw [hc] at h; simp only [cond_true] at h; rw [h] at hc; cases hc
    | false =>
      rw [hc] at h
      simp only [cond_false] at h
      have main : faultC (some c) cs = 0 ∧ ∀ q, p = some q → cmpC q c < 0 := by
        cases p with
        | none => exact ⟨h, fun q hq => by cases hq⟩
        | some q =>
          simp only at h
          cases hd : decide (cmpC q c ≥ 0) with
          | true => rw [hd] at h; cases h
          | false => rw [hd] at h; exact ⟨h, fun q' hq => by cases hq; simpa using hd⟩
      obtain ⟨h1, h2⟩ := faultC_one cs (some c) main.1
      refine ⟨List.pairwise_cons.2 ⟨fun y hy => h2 c rfl y hy, h1⟩, fun q hq y hy => ?_⟩
      rcases List.mem_cons.1 hy with rfl | hy
      · exact main.2 q hq
      · exact lt_trans q c y (main.2 q hq) (h2 c rfl y hy)
theorem faultL_one {l : List G_Contact} (h : faultL l = 0) : OneC l ∧ l.length ≤ 2000 := by
  unfold faultL at h
  cases hl : decide ((l.length : Int) > 2000) with
  | true => rw [hl] at h; cases h
  | false =>
    rw [hl] at h
    refine ⟨List.pairwise_map.2 ((faultC_one l none h).1.imp (fun {x y} h e => ?_)), by simp at hl; omega⟩
    have := key_cmp.1 e
    omega
theorem aget_kv (k : G_Contact) : ∀ out : List G_Contact, aget keq_Contact k (out.map kvC) = out.find? (fun o => keq_Contact k (keyC o))
  | [] => rfl
  | o :: os => by
    simp only [List.map_cons, aget, List.find?_cons, kvC]
    rw [← aget_kv k os]
    cases keq_Contact k (keyC o) <;> rfl
theorem keq_false {x y : G_Contact} (h : x ≠ y) : keq_Contact x y = false := by
  cases hk : keq_Contact x y with
  | false => rfl
  | true => exact absurd ((keq_Contact_is x y).1 hk) h
theorem aset_new (v : G_Contact) : ∀ out : List G_Contact, (∀ o ∈ out, keyC o ≠ keyC v) → aset keq_Contact (keyC v) v (out.map kvC) = (out ++ [v]).map kvC
  | [], _ => rfl
  | o :: os, h => by
    have h1 := keq_false (Ne.symm (h o (by simp)))
    simp only [List.map_cons, aset, kvC, h1, cond_false, List.cons_append]
    have ih := aset_new v os (fun x hx => h x (by simp [hx]))
    rw [ih]
theorem adel_kv {w : G_Contact} : ∀ out : List G_Contact, OneC out → w ∈ out → adel keq_Contact (keyC w) (out.map kvC) = (out.filter (fun o => !(eq_G_Contact o w))).map kvC
  | [], _, h => by cases h
  | o :: os, h1, h => by
    simp only [OneC, List.map_cons, List.nodup_cons] at h1
    by_cases he : o = w
    · subst he
      have hk : keq_Contact (keyC o) (keyC o) = true := (keq_Contact_is _ _).2 rfl
      have hx : eq_G_Contact o o = true := (eq_G_Contact_is _ _).2 rfl
      simp only [List.map_cons, adel, kvC, hk, cond_true, List.filter_cons, hx, Bool.not_true, Bool.false_eq_true, if_false]
      have : os.filter (fun x => !(eq_G_Contact x o)) = os := by
        rw [List.filter_eq_self]
        intro x hx
        cases hq : eq_G_Contact x o with
        | false => rfl
        | true => exact absurd (List.mem_map.2 ⟨x, hx, by rw [(eq_G_Contact_is x o).1 hq]⟩) h1.1
      rw [this]
    · have hw : w ∈ os := by
        rcases List.mem_cons.1 h with h | h
        · exact absurd h.symm he
        · exact h
      have hne : keyC w ≠ keyC o := fun e => h1.1 (List.mem_map.2 ⟨w, hw, e⟩)
      have hx : eq_G_Contact o w = false := by
        cases hq : eq_G_Contact o w with
        | false => rfl
        | true => exact absurd ((eq_G_Contact_is o w).1 hq) he
      have ih := adel_kv os h1.2 hw
      simp only [List.map_cons, adel, kvC, keq_false hne, cond_false, List.filter_cons, hx, Bool.not_false, if_true]
      rw [ih]
noncomputable def leftC (out : List G_Contact) (c : G_Change) : List G_Contact := bif c.f_Kind != 1 then out.filter (fun o => !(eq_G_Contact o c.f_Was)) else out
noncomputable def okC (out : List G_Contact) (c : G_Change) : Bool := (c.f_Kind == 1 || out.any (fun o => eq_G_Contact o c.f_Was)) && (c.f_Kind == 2 || !((leftC out c).any fun o => cmpC o c.f_Is == 0))
noncomputable def nextC (out : List G_Contact) (c : G_Change) : List G_Contact := bif c.f_Kind == 2 then leftC out c else leftC out c ++ [c.f_Is]
theorem leftC_sub {out : List G_Contact} {c : G_Change} {x : G_Contact} (h : x ∈ leftC out c) : x ∈ out := by
  unfold leftC at h
  cases hk : c.f_Kind != 1 with
  | true => rw [hk] at h; exact (List.mem_filter.1 h).1
  | false => rw [hk] at h; exact h
theorem leftC_one {out : List G_Contact} (c : G_Change) (h : OneC out) : OneC (leftC out c) := by
  unfold leftC
  cases c.f_Kind != 1 with
  | true => exact h.sublist ((List.filter_sublist).map _)
  | false => exact h
theorem leftC_len (out : List G_Contact) (c : G_Change) : (leftC out c).length ≤ out.length := by
  unfold leftC
  cases c.f_Kind != 1 with
  | true => exact List.length_filter_le _ _
  | false => exact Nat.le_refl _
theorem nextC_one {out : List G_Contact} {c : G_Change} (h : OneC out) (hk : okC out c = true) : OneC (nextC out c) := by
  unfold nextC
  cases k2 : c.f_Kind == 2 with
  | true => exact leftC_one c h
  | false =>
    simp only [cond_false]
    unfold OneC
    rw [List.map_append, List.nodup_append]
    refine ⟨leftC_one c h, by simp, fun u hu v hv e => ?_⟩
    obtain ⟨x, hx, rfl⟩ := List.mem_map.1 hu
    simp only [List.map_cons, List.map_nil, List.mem_singleton] at hv
    subst hv
    unfold okC at hk
    rw [Bool.and_eq_true, k2, Bool.false_or] at hk
    have h2 := hk.2
    rw [Bool.not_eq_true', List.any_eq_false] at h2
    have := h2 x hx
    exact this (by simpa using key_cmp.1 e)
theorem any_was {out : List G_Contact} {w : G_Contact} : out.any (fun o => eq_G_Contact o w) = true ↔ w ∈ out := by
  rw [List.any_eq_true]
  constructor
  · rintro ⟨x, hx, h⟩; rw [← (eq_G_Contact_is x w).1 h]; exact hx
  · intro h; exact ⟨w, h, (eq_G_Contact_is w w).2 rfl⟩
theorem find_key {out : List G_Contact} (h : OneC out) (w : G_Contact) :
    (∃ o, out.find? (fun o => keq_Contact (keyC w) (keyC o)) = some o ∧ o ∈ out ∧ keyC o = keyC w) ∨ (out.find? (fun o => keq_Contact (keyC w) (keyC o)) = none ∧ ∀ o ∈ out, keyC o ≠ keyC w) := by
  cases hf : out.find? (fun o => keq_Contact (keyC w) (keyC o)) with
  | some o =>
    refine .inl ⟨o, rfl, List.mem_of_find?_eq_some hf, ?_⟩
    have := List.find?_some hf
    exact ((keq_Contact_is _ _).1 this).symm
  | none =>
    refine .inr ⟨rfl, fun o ho e => ?_⟩
    have := List.find?_eq_none.1 hf o ho
    exact this ((keq_Contact_is _ _).2 e.symm)
theorem log_change_is {out : List G_Contact} {c : G_Change} (h : OneC out) (hk : inB c.f_Kind 1 3 = true) (R : Type) (k : Bool → List (G_Contact × G_Contact) → Option R) :
    log_change (out.map kvC) c k = bif okC out c then k true ((nextC out c).map kvC) else k false (out.map kvC) := by
  have hk3 : c.f_Kind = 1 ∨ c.f_Kind = 2 ∨ c.f_Kind = 3 := by have := inB_is.1 hk; omega
  have hgw : mget_Contact_Contact (keyC c.f_Was) (out.map kvC) = out.find? (fun o => keq_Contact (keyC c.f_Was) (keyC o)) := by rw [lm_get_Contact_Contact]; exact aget_kv _ _
  have hgi : mget_Contact_Contact (keyC c.f_Is) (out.map kvC) = out.find? (fun o => keq_Contact (keyC c.f_Is) (keyC o)) := by rw [lm_get_Contact_Contact]; exact aget_kv _ _
  have eta : ∀ x : G_Contact, (⟨x.f_At, x.f_Mode, x.f_Band, x.f_Call, x.f_Sent, x.f_Heard, x.f_Gave, x.f_Got⟩ : G_Contact) = x := fun x => rfl
  simp only [log_change, log_change_, I_log_change, log_key_is, eta, hgw, hgi]
  have fw := find_key h c.f_Was
  have fi := find_key h c.f_Is
  have first : (∃ o, out.find? (fun o => keq_Contact (keyC c.f_Was) (keyC o)) = some o ∧ eq_G_Contact o c.f_Was = true ∧ c.f_Was ∈ out) ∨ ((out.find? (fun o => keq_Contact (keyC c.f_Was) (keyC o)) = none ∨ ∃ o, out.find? (fun o => keq_Contact (keyC c.f_Was) (keyC o)) = some o ∧ eq_G_Contact o c.f_Was = false) ∧ c.f_Was ∉ out) := by
    rcases fw with ⟨o, h1, h2, h3⟩ | ⟨h1, h2⟩
    · cases he : eq_G_Contact o c.f_Was with
      | true => exact .inl ⟨o, h1, he, (eq_G_Contact_is _ _).1 he ▸ h2⟩
      | false =>
        refine .inr ⟨.inr ⟨o, h1, he⟩, fun hw => ?_⟩
        have := one_eq h h2 hw h3
        rw [(eq_G_Contact_is _ _).2 this] at he; cases he
    · exact .inr ⟨.inl h1, fun hw => h2 _ hw rfl⟩
  rcases hk3 with hk | hk | hk
  · -- put
    have b1 : (c.f_Kind == 1) = true := by rw [hk]; rfl
    have b2 : (c.f_Kind == 2) = false := by rw [hk]; rfl
    have b3 : (c.f_Kind != 1) = false := by rw [hk]; rfl
    have b4 : (c.f_Kind != 2) = true := by rw [hk]; rfl
    simp only [b1, b2, b3, b4, cond_true, cond_false, okC, nextC, leftC, Bool.true_or, Bool.true_and, Bool.false_or]
    rcases fi with ⟨o, h1, h2, h3⟩ | ⟨h1, h2⟩
    · have : (out.any fun o => cmpC o c.f_Is == 0) = true := List.any_eq_true.2 ⟨o, h2, by simpa using key_cmp.1 h3⟩
      rw [h1, this]; rfl
    · have : (out.any fun o => cmpC o c.f_Is == 0) = false := by
        rw [List.any_eq_false]; intro x hx e; exact h2 x hx (key_cmp.2 (by simpa using e))
      rw [h1, this]
      simp only [Option.isSome_none, cond_false, Bool.not_false, cond_true]
      rw [lm_set_Contact_Contact, aset_new _ _ h2]
  · -- drop
    have b1 : (c.f_Kind == 1) = false := by rw [hk]; rfl
    have b2 : (c.f_Kind == 2) = true := by rw [hk]; rfl
    have b3 : (c.f_Kind != 1) = true := by rw [hk]; rfl
    have b4 : (c.f_Kind != 2) = false := by rw [hk]; rfl
    simp only [b1, b2, b3, b4, cond_true, cond_false, okC, nextC, leftC, Bool.false_or, Bool.true_or, Bool.and_true]
    rcases first with ⟨o, h1, h2, h3⟩ | ⟨h1, h2⟩
    · rw [h1, any_was.2 h3]
      simp only [Option.isSome_some, Bool.not_true, cond_false, Option.getD_some, h2, cond_true]
      rw [lm_del_Contact_Contact, adel_kv _ h h3]
    · have : (out.any fun o => eq_G_Contact o c.f_Was) = false := by
        cases hq : out.any fun o => eq_G_Contact o c.f_Was with
        | false => rfl
        | true => exact absurd (any_was.1 hq) h2
      rw [this]
      rcases h1 with h1 | ⟨o, h1, h3⟩
      · rw [h1]; rfl
      · rw [h1]
        simp only [Option.isSome_some, Bool.not_true, cond_false, Option.getD_some, h3, Bool.not_false, cond_true]
  · -- set
    have b1 : (c.f_Kind == 1) = false := by rw [hk]; rfl
    have b2 : (c.f_Kind == 2) = false := by rw [hk]; rfl
    have b3 : (c.f_Kind != 1) = true := by rw [hk]; rfl
    have b4 : (c.f_Kind != 2) = true := by rw [hk]; rfl
    simp only [b1, b2, b3, b4, cond_true, cond_false, okC, nextC, leftC, Bool.false_or]
    rcases first with ⟨o, h1, h2, h3⟩ | ⟨h1, h2⟩
    · rw [h1, any_was.2 h3]
      simp only [Option.isSome_some, Bool.not_true, cond_false, Option.getD_some, h2, Bool.true_and]
      have hdel : mdel_Contact_Contact (keyC c.f_Was) (out.map kvC) = (out.filter (fun o => !(eq_G_Contact o c.f_Was))).map kvC := by rw [lm_del_Contact_Contact, adel_kv _ h h3]
      have hmem : ∀ x, x ∈ out.filter (fun o => !(eq_G_Contact o c.f_Was)) ↔ x ∈ out ∧ x ≠ c.f_Was := fun x => by
        rw [List.mem_filter, Bool.not_eq_true']
        constructor
        · rintro ⟨a, b⟩; exact ⟨a, fun e => by rw [(eq_G_Contact_is _ _).2 e] at b; cases b⟩
        · rintro ⟨a, b⟩
          refine ⟨a, ?_⟩
          cases hq : eq_G_Contact x c.f_Was with
          | false => rfl
          | true => exact absurd ((eq_G_Contact_is _ _).1 hq) b
      rw [hdel]
      have hnew : (∀ x ∈ out, x ≠ c.f_Was → keyC x ≠ keyC c.f_Is) → mset_Contact_Contact (keyC c.f_Is) c.f_Is ((out.filter (fun o => !(eq_G_Contact o c.f_Was))).map kvC) = ((out.filter (fun o => !(eq_G_Contact o c.f_Was))) ++ [c.f_Is]).map kvC := fun hh => by
        rw [lm_set_Contact_Contact, aset_new]
        intro x hx
        have := (hmem x).1 hx
        exact hh x this.1 this.2
      have hany : (∀ x ∈ out, x ≠ c.f_Was → keyC x ≠ keyC c.f_Is) → ((out.filter (fun o => !(eq_G_Contact o c.f_Was))).any fun o => cmpC o c.f_Is == 0) = false := fun hh => by
        rw [List.any_eq_false]
        intro x hx e
        have := (hmem x).1 hx
        exact hh x this.1 this.2 (key_cmp.2 (by simpa using e))
      rcases fi with ⟨q, h4, h5, h6⟩ | ⟨h4, h5⟩
      · rw [h4]
        simp only [Option.isSome_some, cond_true]
        cases hq : eq_G_Contact (keyC c.f_Is) (keyC c.f_Was) with
        | true =>
          have hkk := (eq_G_Contact_is _ _).1 hq
          have hh : ∀ x ∈ out, x ≠ c.f_Was → keyC x ≠ keyC c.f_Is := fun x hx hne e => hne (one_eq h hx h3 (e.trans hkk))
          rw [hany hh, hnew hh]; rfl
        | false =>
          have : ((out.filter (fun o => !(eq_G_Contact o c.f_Was))).any fun o => cmpC o c.f_Is == 0) = true := by
            refine List.any_eq_true.2 ⟨q, (hmem q).2 ⟨h5, fun e => ?_⟩, by simpa using key_cmp.1 h6⟩
            rw [e] at h6
            rw [(eq_G_Contact_is _ _).2 h6.symm] at hq; cases hq
          rw [this]; rfl
      · have hh : ∀ x ∈ out, x ≠ c.f_Was → keyC x ≠ keyC c.f_Is := fun x hx _ => h5 x hx
        rw [h4, hany hh, hnew hh]; rfl
    · have : (out.any fun o => eq_G_Contact o c.f_Was) = false := by
        cases hq : out.any fun o => eq_G_Contact o c.f_Was with
        | false => rfl
        | true => exact absurd (any_was.1 hq) h2
      rw [this, Bool.false_and]
      rcases h1 with h1 | ⟨o, h1, h3⟩
      · rw [h1]; rfl
      · rw [h1]
        simp only [Option.isSome_some, Bool.not_true, cond_false, Option.getD_some, h3, Bool.not_false, cond_true]
end Go.Am
set_option linter.unusedVariables false
set_option linter.unusedSectionVars false
set_option linter.unusedSimpArgs false
set_option maxRecDepth 100000
namespace Go.Am
open Go Go.Proofs
variable [Fuel]
noncomputable def runC : Nat → List G_Contact → List Int → List G_Change → List G_Contact × List Int
  | _, out, r, [] => (out, r)
  | i, out, r, c :: cs => bif okC out c then runC (i + 1) (nextC out c) r cs else runC (i + 1) out (r ++ [(i : Int)]) cs
theorem nextC_len (out : List G_Contact) (c : G_Change) : (nextC out c).length ≤ out.length + 1 := by
  have := leftC_len out c
  unfold nextC
  cases c.f_Kind == 2 <;> simp <;> omega
theorem nextC_mem {out : List G_Contact} {c : G_Change} {x : G_Contact} (h : x ∈ nextC out c) : x ∈ out ∨ x = c.f_Is := by
  unfold nextC at h
  cases hk : c.f_Kind == 2 with
  | true => rw [hk] at h; exact .inl (leftC_sub h)
  | false =>
    rw [hk] at h
    rcases List.mem_append.1 h with h | h
    · exact .inl (leftC_sub h)
    · exact .inr (by simpa using h)
theorem runC_len : ∀ (cs : List G_Change) (i : Nat) (out : List G_Contact) (r : List Int), (runC i out r cs).1.length ≤ out.length + cs.length ∧ (runC i out r cs).2.length ≤ r.length + cs.length
  | [], i, out, r => by simp [runC]
  | c :: cs, i, out, r => by
    have h1 := runC_len cs (i + 1) (nextC out c) r
    have h2 := runC_len cs (i + 1) out (r ++ [(i : Int)])
    have h3 := nextC_len out c
    simp at h2
    unfold runC
    cases okC out c <;> simp <;> omega
theorem runC_one : ∀ (cs : List G_Change) (i : Nat) (out : List G_Contact) (r : List Int), OneC out → OneC (runC i out r cs).1
  | [], i, out, r, h => h
  | c :: cs, i, out, r, h => by
    unfold runC
    cases hk : okC out c with
    | true => exact runC_one cs _ _ _ (nextC_one h hk)
    | false => exact runC_one cs _ _ _ h
theorem runC_fine : ∀ (cs : List G_Change) (i : Nat) (out : List G_Contact) (r : List Int), (∀ x ∈ out, Fine x) → (∀ c ∈ cs, FineH c) → ∀ x ∈ (runC i out r cs).1, Fine x
  | [], i, out, r, h, _, x, hx => h x hx
  | c :: cs, i, out, r, h, hc, x, hx => by
    unfold runC at hx
    cases hk : okC out c with
    | true =>
      rw [hk] at hx
      refine runC_fine cs _ _ _ (fun y hy => ?_) (fun d hd => hc d (by simp [hd])) x hx
      rcases nextC_mem hy with hy | rfl
      · exact h y hy
      · exact (hc c (by simp)).is
    | false => rw [hk] at hx; exact runC_fine cs _ _ _ h (fun d hd => hc d (by simp [hd])) x hx
theorem log_Changed_L9_is (d : List G_Change) (l : List G_Contact) (hl : l.length ≤ 100000) (h1 : OneC l) : ∀ (xs pre : List G_Contact) (n i : Nat), l.drop i = xs → l = pre ++ xs → xs.length < n → ∀ (R : Type) (e0 : List G_Change → List (G_Contact × G_Contact) → Option R),
    log_Changed_L9 I_log_Changed n d l (l.length : Int) (i : Int) (pre.map kvC) e0 = e0 d (l.map kvC)
  | _, _, 0, _, _, _, h, _, _ => by omega
  | [], pre, n + 1, i, h, hp, _, R, e0 => by
    rw [List.append_nil] at hp
    rw [log_Changed_L9, ge_drop h, hp]; rfl
  | x :: xs, pre, n + 1, i, h, hp, hn, R, e0 => by
    have h' := drop_cons h
    have ih := log_Changed_L9_is d l hl h1 xs (pre ++ [x]) n (i + 1) h'.2.2.1 (by rw [hp]; simp) (by simp at hn; omega) R e0
    have hnew : ∀ o ∈ pre, keyC o ≠ keyC x := fun o ho e => by
      rw [hp] at h1
      unfold OneC at h1
      rw [List.map_append, List.nodup_append] at h1
      exact h1.2.2 (keyC o) (List.mem_map.2 ⟨o, ho, rfl⟩) (keyC x) (by simp) e
    rw [log_Changed_L9, lt_drop h]
    simp only [I_log_Changed] at ih
    simp only [cond_true, get_drop h, I_log_Changed, log_key_is]
    rw [lm_set_Contact_Contact, aset_new _ _ hnew, w64_succ (by omega)]
    exact ih
theorem log_Changed_L15_is (d : List G_Change) (hd : ∀ c ∈ d, inB c.f_Kind 1 3 = true) (hl : d.length ≤ 100000) : ∀ (xs : List G_Change) (n i : Nat) (out : List G_Contact) (r : List Int), d.drop i = xs → OneC out → xs.length < n → r.length ≤ i → ∀ (R : Type) (e0 : List (G_Contact × G_Contact) → List Int → Option R),
    log_Changed_L15 I_log_Changed n d (d.length : Int) (i : Int) (out.map kvC) r e0 = e0 ((runC i out r xs).1.map kvC) (runC i out r xs).2
  | _, 0, _, _, _, _, _, h, _, _, _ => by omega
  | [], n + 1, i, out, r, h, _, _, _, R, e0 => by rw [log_Changed_L15, ge_drop h]; rfl
  | c :: cs, n + 1, i, out, r, h, ho, hn, hr, R, e0 => by
    have h' := drop_cons h
    have ih1 := fun hk => log_Changed_L15_is d hd hl cs n (i + 1) (nextC out c) r h'.2.2.1 (nextC_one ho hk) (by simp at hn; omega) (by omega) R e0
    have ih2 := log_Changed_L15_is d hd hl cs n (i + 1) out (r ++ [(i : Int)]) h'.2.2.1 ho (by simp at hn; omega) (by simp; omega) R e0
    rw [log_Changed_L15, lt_drop h]
    simp only [I_log_Changed] at ih1 ih2
    simp only [cond_true, get_drop h, I_log_Changed, log_change_is ho (hd c (mem_drop h)), runC, room1 r (i : Int) 8 (by omega) (by omega), w64_succ (show i < 4611686018427387904 by omega)]
    cases hk : okC out c with
    | true => exact ih1 hk
    | false => exact ih2
theorem log_Changed_L24_is {R : Type} (y : Option R) (m : List (G_Contact × G_Contact)) (r : List Int) (e0 : List Int → List G_Contact → Option R) : ∀ (n : Nat) (left : List (G_Contact × G_Contact)) (out : List G_Contact), left.length < n → out.length + left.length ≤ 1000000 → (∀ o, o.Perm (out ++ left.map (·.2)) → e0 r o = y) →
    log_Changed_L24 I_log_Changed n m left r out e0 = y
  | 0, _, _, h, _, _ => by omega
  | n + 1, [], out, _, _, he => by
    rw [log_Changed_L24, pickAll_nil]
    exact he out (by simp)
  | n + 1, x :: xs, out, h, hl, he => by
    rw [log_Changed_L24]
    refine pickAll_same (by simp) (fun p hp => ?_)
    have hpm := picks_perm hp
    have hlen := hpm.length_eq
    simp at hlen
    simp at h hl
    simp only [room1 out p.1.2 96 (by omega) (by omega), cond_true]
    refine log_Changed_L24_is y m r e0 n p.2 (out ++ [p.1.2]) (by omega) (by simp; omega) (fun o ho => he o (ho.trans ?_))
    rw [List.append_assoc]
    exact (List.Perm.append_left out (by simpa using hpm.map (·.2)))
theorem sortfC_cmp {l : List G_Contact} (h : OneC l) (hl : l.length ≤ 100000) (R : Type) (k : List G_Contact → Option R) : slices_SortFunc__Contact_log_Compare l k = k (sortI cmpC l) :=
  X_sortf_one ords_cmpC (by omega) (fun x hx y hy e => one_eq h hx hy (key_cmp.2 e)) (fun x _ y _ => log_Compare_is x y) k
theorem sortfC_ord {l : List G_Contact} (h : OneC l) (hf : ∀ x ∈ l, Fine x) (hl : l.length ≤ 100000) (R : Type) (k : List G_Contact → Option R) : slices_SortFunc__Contact_Q_ContactOrder l k = k (sortI cmpC l) :=
  X_sortf_one ords_cmpC (by omega) (fun x hx y hy e => one_eq h hx hy (key_cmp.2 e)) (fun x hx y hy => Q_ContactOrder_is (hf x hx) (hf y hy)) k
noncomputable def changedC (l : List G_Contact) (c : List G_Change) : List G_Contact × List Int × Int :=
  bif decide (((runC 0 l [] c).1.length : Int) > 2000) then ([], [], 2) else (sortI cmpC (runC 0 l [] c).1, (runC 0 l [] c).2, 0)
theorem raw_log_Changed_is {l : List G_Contact} {c : List G_Change} (hf : ∀ x ∈ l, Fine x) (hc : ∀ x ∈ c, FineH x) (hl : l.length ≤ 1000) (hcl : c.length ≤ 1000) (R : Type) (k : List G_Contact → List Int → Int → Option R) :
    raw_log_Changed I_log_Changed l c k = bif orL [faultL l, faultH c] != 0 then k [] [] (orL [faultL l, faultH c]) else k (changedC l c).1 (changedC l c).2.1 (changedC l c).2.2 := by
  have hNN := NN_ok
  simp only [raw_log_Changed, log_CheckLog_is hf (show l.length ≤ 100000 by omega), log_CheckChanges_is hc (show c.length ≤ 100000 by omega), I_log_Changed, orL]
  cases h1 : faultL l != 0 with
  | true => simp only [cond_true, h1]
  | false =>
    simp only [cond_false]
    cases h2 : faultH c != 0 with
    | true => simp only [cond_true, h2]
    | false =>
      simp only [cond_false, bne_self_eq_false]
      have z1 : faultL l = 0 := by simpa using h1
      have z2 : faultH c = 0 := by simpa using h2
      obtain ⟨o1, _⟩ := faultL_one z1
      obtain ⟨_, _, o2⟩ := faultH_inc z2
      have hk : ∀ x ∈ c, inB x.f_Kind 1 3 = true := fun x hx => by
        obtain ⟨q, hq⟩ := o2 x hx
        exact (chkH_zero hq).kind
      have hone := runC_one c 0 l [] o1
      have hlen := runC_len c 0 l []
      have e9 := fun (e0 : List G_Change → List (G_Contact × G_Contact) → Option R) => log_Changed_L9_is c l (by omega) o1 l [] NN 0 rfl rfl (by omega) R e0
      have e15 := fun (e0 : List (G_Contact × G_Contact) → List Int → Option R) => log_Changed_L15_is c hk (by omega) c NN 0 l [] rfl o1 (by omega) (by simp) R e0
      have e24 : log_Changed_L24 I_log_Changed NN ((runC 0 l [] c).1.map kvC) ((runC 0 l [] c).1.map kvC) (runC 0 l [] c).2 [] (fun e37 e38 => slices_SortFunc__Contact_log_Compare e38 (fun r39 => k r39 e37 0)) = k (sortI cmpC (runC 0 l [] c).1) (runC 0 l [] c).2 0 := by
        refine log_Changed_L24_is _ _ _ _ NN _ [] (by simp at hlen ⊢; omega) (by simp at hlen ⊢; omega) (fun o ho => ?_)
        have hmap : ((runC 0 l [] c).1.map kvC).map (·.2) = (runC 0 l [] c).1 := by
          rw [List.map_map]
          have : ((fun x : G_Contact × G_Contact => x.2) ∘ kvC) = id := rfl
          rw [this, List.map_id]
        rw [hmap, List.nil_append] at ho
        have ho1 : OneC o := (ho.map keyC).nodup_iff.2 hone
        have hol := ho.length_eq
        simp at hlen
        rw [sortfC_cmp ho1 (by omega), sortI_perm_one ords_cmpC (fun x hx y hy e => one_eq hone hx hy (key_cmp.2 e)) ho]
      simp only [I_log_Changed] at e9 e15 e24
      have z0 : ((0 : Nat) : Int) = 0 := rfl
      rw [z0] at e9 e15
      simp only [List.map_nil] at e9
      rw [e9, e15]
      unfold changedC
      simp only [List.length_map]
      cases decide (((runC 0 l [] c).1.length : Int) > 2000) with
      | true => rfl
      | false => exact e24
theorem log_Changed_is {l : List G_Contact} {c : List G_Change} (hf : ∀ x ∈ l, Fine x) (hc : ∀ x ∈ c, FineH x) (hl : l.length ≤ 1000) (hcl : c.length ≤ 1000) (R : Type) (k : List G_Contact → List Int → Int → Option R) :
    log_Changed l c k = bif orL [faultL l, faultH c] != 0 then k [] [] (orL [faultL l, faultH c]) else k (changedC l c).1 (changedC l c).2.1 (changedC l c).2.2 := by
  show (raw_log_Changed I_log_Changed l c (fun z0 z1 z2 => some (inj0_log_Changed (z0, z1, z2)))).bind _ = _
  rw [raw_log_Changed_is hf hc hl hcl]
  cases orL [faultL l, faultH c] != 0 <;> rfl
theorem Q_ChangedLog_1_is (c : G_Change) (x : G_Contact) (R : Type) (k : Bool → G_Change → Option R) : Q_ChangedLog_1 x c k = k (bif c.f_Kind != 1 then eq_G_Contact x c.f_Was else false) c := by
  simp only [Q_ChangedLog_1, Q_ChangedLog_1_]
  cases c.f_Kind != 1 <;> rfl
theorem delC_is {l : List G_Contact} (c : G_Change) (hl : l.length ≤ 100000) (R : Type) (k : List G_Contact → G_Change → Option R) : slices_DeleteFunc__Contact_Q_ChangedLog_1 l c k = k (leftC l c) c := by
  rw [li_slices_DeleteFunc__Contact_Q_ChangedLog_1, sDel_is (fun a s R k => by rw [li_slices_IndexFunc__Contact_Q_ChangedLog_1]) _ c l (fun x _ => Q_ChangedLog_1_is c x) (by have := NN_ok; omega) (by have := NN_ok; omega)]
  congr 1
  unfold leftC
  cases c.f_Kind != 1 with
  | true => rfl
  | false => simp
theorem Q_ChangedLog_2_is {c : G_Change} {x : G_Contact} (hx : Fine x) (hc : FineH c) (R : Type) (k : Bool → G_Change → Option R) : Q_ChangedLog_2 x c k = k (bif c.f_Kind != 2 then cmpC x c.f_Is == 0 else false) c := by
  simp only [Q_ChangedLog_2, Q_ChangedLog_2_, I_Q_ChangedLog_2, Q_ContactOrder_is hx hc.is]
  cases c.f_Kind != 2 <;> rfl
theorem conC_is {l : List G_Contact} (hf : ∀ x ∈ l, Fine x) {c : G_Change} (hc : FineH c) (hl : l.length ≤ 100000) (R : Type) (k : Bool → G_Change → Option R) : slices_ContainsFunc__Contact_Q_ChangedLog_2 l c k = k (l.any fun x => bif c.f_Kind != 2 then cmpC x c.f_Is == 0 else false) c := by
  simp only [slices_ContainsFunc__Contact_Q_ChangedLog_2, slices_ContainsFunc__Contact_Q_ChangedLog_2_, I_slices_ContainsFunc__Contact_Q_ChangedLog_2, li_slices_IndexFunc__Contact_Q_ChangedLog_2]
  rw [sIndexF_is (@Q_ChangedLog_2 _) _ c l (fun x hx => Q_ChangedLog_2_is (hf x hx) hc) (by have := NN_ok; omega) (by have := NN_ok; omega), idxI_ge]
theorem Q_ChangedLog_L4_is (d : List G_Change) (hd : ∀ c ∈ d, FineH c ∧ inB c.f_Kind 1 3 = true) (hl : d.length ≤ 1000) : ∀ (xs : List G_Change) (n i : Nat) (out : List G_Contact) (r : List Int), d.drop i = xs → (∀ x ∈ out, Fine x) → xs.length < n → r.length ≤ i → out.length ≤ 1000 + i → ∀ (R : Type) (e0 : List G_Contact → List Int → Option R),
    Q_ChangedLog_L4 I_Q_ChangedLog n d (d.length : Int) (i : Int) out r e0 = e0 (runC i out r xs).1 (runC i out r xs).2
  | _, 0, _, _, _, _, _, h, _, _, _, _ => by omega
  | [], n + 1, i, out, r, h, _, _, _, _, R, e0 => by rw [Q_ChangedLog_L4, ge_drop h]; rfl
  | c :: cs, n + 1, i, out, r, h, hf, hn, hr, ho, R, e0 => by
    have h' := drop_cons h
    have hcd := hd c (mem_drop h)
    have hk3 : c.f_Kind = 1 ∨ c.f_Kind = 2 ∨ c.f_Kind = 3 := by have := inB_is.1 hcd.2; omega
    have hnl := nextC_len out c
    have hll := leftC_len out c
    have ih1 := Q_ChangedLog_L4_is d hd hl cs n (i + 1) (nextC out c) r h'.2.2.1 (fun x hx => by
      rcases nextC_mem hx with hx | rfl
      · exact hf x hx
      · exact hcd.1.is) (by simp at hn; omega) (by omega) (by omega) R e0
    have ih2 := Q_ChangedLog_L4_is d hd hl cs n (i + 1) out (r ++ [(i : Int)]) h'.2.2.1 hf (by simp at hn; omega) (by simp; omega) (by omega) R e0
    have hfl : ∀ x ∈ leftC out c, Fine x := fun x hx => hf x (leftC_sub hx)
    rw [Q_ChangedLog_L4, lt_drop h]
    simp only [I_Q_ChangedLog] at ih1 ih2
    simp only [cond_true, get_drop h, I_Q_ChangedLog, cloneC_is (show out.length ≤ 1000000 by omega), delC_is c (show out.length ≤ 100000 by omega), conC_is hfl hcd.1 (show (leftC out c).length ≤ 100000 by omega), room1 r (i : Int) 8 (by omega) (by omega), room1 (leftC out c) c.f_Is 96 (by omega) (by omega), w64_succ (show i < 4611686018427387904 by omega), ih2, runC]
    have hlen : c.f_Kind ≠ 1 → ((((leftC out c).length : Int) == (out.length : Int)) = !(out.any fun o => eq_G_Contact o c.f_Was)) := fun hk => by
      have b3 : (c.f_Kind != 1) = true := by simpa using hk
      have e : leftC out c = out.filter (fun o => !(eq_G_Contact o c.f_Was)) := by unfold leftC; rw [b3]; rfl
      rw [e, Bool.eq_iff_iff]
      simp only [beq_iff_eq, Bool.not_eq_true', List.any_eq_false]
      rw [Int.ofNat_inj, List.length_filter_eq_length_iff]
      constructor
      · intro hh x hx e2
        have := hh x hx
        rw [e2] at this; cases this
      · intro hh x hx
        have := hh x hx
        simp only [Bool.not_eq_true] at this
        rw [this]; rfl
    rcases hk3 with hk | hk | hk
    · have b1 : (c.f_Kind == 1) = true := by rw [hk]; rfl
      have b2 : (c.f_Kind == 2) = false := by rw [hk]; rfl
      have b3 : (c.f_Kind != 1) = false := by rw [hk]; rfl
      have b4 : (c.f_Kind != 2) = true := by rw [hk]; rfl
      have hn2 : nextC out c = leftC out c ++ [c.f_Is] := by unfold nextC; rw [b2]; rfl
      rw [hn2] at ih1 ⊢
      simp only [b1, b2, b3, b4, cond_true, cond_false, okC, Bool.true_or, Bool.true_and, Bool.false_or, ih1]
      cases (leftC out c).any fun o => cmpC o c.f_Is == 0 <;> rfl
    · have b1 : (c.f_Kind == 1) = false := by rw [hk]; rfl
      have b2 : (c.f_Kind == 2) = true := by rw [hk]; rfl
      have b3 : (c.f_Kind != 1) = true := by rw [hk]; rfl
      have b4 : (c.f_Kind != 2) = false := by rw [hk]; rfl
      have hn2 : nextC out c = leftC out c := by unfold nextC; rw [b2]; rfl
      have hfa : ((leftC out c).any fun _ => false) = false := by rw [List.any_eq_false]; intro x _ h; cases h
      rw [hn2] at ih1 ⊢
      simp only [b1, b2, b3, b4, cond_true, cond_false, okC, Bool.true_or, Bool.and_true, Bool.false_or, ih1, hlen (by omega), hfa]
      cases out.any fun o => eq_G_Contact o c.f_Was <;> rfl
    · have b1 : (c.f_Kind == 1) = false := by rw [hk]; rfl
      have b2 : (c.f_Kind == 2) = false := by rw [hk]; rfl
      have b3 : (c.f_Kind != 1) = true := by rw [hk]; rfl
      have b4 : (c.f_Kind != 2) = true := by rw [hk]; rfl
      have hn2 : nextC out c = leftC out c ++ [c.f_Is] := by unfold nextC; rw [b2]; rfl
      rw [hn2] at ih1 ⊢
      simp only [b1, b2, b3, b4, cond_true, cond_false, okC, Bool.false_or, ih1, hlen (by omega)]
      cases out.any fun o => eq_G_Contact o c.f_Was <;> cases (leftC out c).any fun o => cmpC o c.f_Is == 0 <;> rfl
theorem Q_ChangedLog_is {l : List G_Contact} {c : List G_Change} (hf : ∀ x ∈ l, Fine x) (hc : ∀ x ∈ c, FineH x) (h1 : faultL l = 0) (h2 : faultH c = 0) (hl : l.length ≤ 1000) (hcl : c.length ≤ 1000) (R : Type) (k : List G_Contact → List Int → Int → Option R) :
    Q_ChangedLog l c k = k (changedC l c).1 (changedC l c).2.1 (changedC l c).2.2 := by
  have hNN := NN_ok
  obtain ⟨o1, _⟩ := faultL_one h1
  obtain ⟨_, _, o2⟩ := faultH_inc h2
  have hk : ∀ x ∈ c, FineH x ∧ inB x.f_Kind 1 3 = true := fun x hx => by
    obtain ⟨q, hq⟩ := o2 x hx
    exact ⟨hc x hx, (chkH_zero hq).kind⟩
  have hone := runC_one c 0 l [] o1
  have hlen := runC_len c 0 l []
  simp at hlen
  have hfine := runC_fine c 0 l [] hf hc
  have e4 := fun (e0 : List G_Contact → List Int → Option R) => Q_ChangedLog_L4_is c hk hcl c NN 0 l [] rfl hf (by omega) (by simp) (by omega) R e0
  have z0 : ((0 : Nat) : Int) = 0 := rfl
  rw [z0] at e4
  simp only [I_Q_ChangedLog] at e4
  simp only [Q_ChangedLog, Q_ChangedLog_, I_Q_ChangedLog, cloneC_is (show l.length ≤ 1000000 by omega), e4, sortfC_ord hone hfine (show (runC 0 l [] c).1.length ≤ 100000 by omega)]
  unfold changedC
  rw [sortI_length]
  cases decide (((runC 0 l [] c).1.length : Int) > 2000) <;> rfl
end Go.Am
set_option linter.unusedVariables false
set_option linter.unusedSectionVars false
set_option linter.unusedSimpArgs false
set_option maxRecDepth 100000
namespace Go.Am
open Go Go.Proofs
variable [Fuel]
theorem law_logged_is (R : Type) (k : Bool → Option R) : law_logged k = k true := by
  obtain ⟨m, h, rfl⟩ := fuel_is ‹Fuel›
  kernel_rfl
theorem equalI_is {l : List Int} (hl : l.length ≤ 1000000) (R : Type) (k : Bool → Option R) : slices_Equal__int l l k = k true := by
  rw [li_slices_Equal__int]; exact sEqual_same (by have := NN_ok; omega) (by have := NN_ok; omega) (fun x => by simp) k
theorem LH_J19 (e f : Int) (c m : List G_Change) (x : List G_Contact) (n : List Int) (hc : ∀ c' ∈ c, FineH c') (h0 : c.length ≤ 1000) (h1 : m.length ≤ 100000) (h2 : x.length ≤ 100000) (h3 : n.length ≤ 100000) (R : Type) (k : Bool → Option R) :
    law_LogsChanged_J19 I_law_LogsChanged e f e f c m x n m x n k = k true := by
  simp only [law_LogsChanged_J19, I_law_LogsChanged, log_CheckChanges_is hc (show c.length ≤ 100000 by omega), Q_ChangesFault_is hc (show c.length ≤ 100000 by omega), beq_self_eq_true, cond_true, equalH_is (show m.length ≤ 1000000 by omega), equalC_is (show x.length ≤ 1000000 by omega), equalI_is (show n.length ≤ 1000000 by omega), law_logged_is]
theorem LH_J15 (e g : Int) (a : List G_Contact) (c m : List G_Change) (ha : ∀ x ∈ a, Fine x) (hc : ∀ c' ∈ c, FineH c') (hl : a.length ≤ 1000) (h0 : c.length ≤ 1000) (h1 : m.length ≤ 100000) (R : Type) (k : Bool → Option R) :
    log_Changed a c (fun x n f => law_LogsChanged_J15 I_law_LogsChanged e f e (orL [faultL a, faultH c]) a c m x n m k) = k true := by
  have hrl := runC_len c 0 a []
  simp at hrl
  have hc1 : (changedC a c).1.length ≤ 100000 := by unfold changedC; cases decide (((runC 0 a [] c).1.length : Int) > 2000) <;> simp [sortI_length]; omega
  have hc2 : (changedC a c).2.1.length ≤ 100000 := by unfold changedC; cases decide (((runC 0 a [] c).1.length : Int) > 2000) <;> simp; omega
  rw [log_Changed_is ha hc hl h0]
  cases h : orL [faultL a, faultH c] != 0 with
  | true =>
    have h2 : (orL [faultL a, faultH c] == 0) = false := by simpa using h
    simp only [cond_true]
    unfold law_LogsChanged_J15
    rw [h2]
    simp only [cond_false]
    exact LH_J19 e _ c m [] [] hc h0 h1 (by simp) (by simp) R k
  | false =>
    have h2 : orL [faultL a, faultH c] = 0 := by simpa using h
    have hz := orL_zero.1 h2
    have j19 := LH_J19 e (changedC a c).2.2 c m (changedC a c).1 (changedC a c).2.1 hc h0 h1 hc1 hc2 R k
    simp only [I_law_LogsChanged] at j19
    simp only [cond_false, law_LogsChanged_J15, h2, beq_self_eq_true, cond_true, I_law_LogsChanged, Q_ChangedLog_is ha hc (hz _ (by simp)) (hz _ (by simp)) hl h0]
    exact j19
theorem LH_end (a : List G_Contact) (c d : List G_Change) (ha : ∀ x ∈ a, Fine x) (hc : ∀ x ∈ c, FineH x) (hd : ∀ x ∈ d, FineH x) (hl : a.length ≤ 1000) (hcd : c.length + d.length ≤ 20) (R : Type) (k : Bool → Option R)
    (J : Int → Int → Int → Int → List G_Contact → List G_Change → List G_Change → List G_Contact → List Int → List G_Change → (Bool → Option R) → Option R)
    (hJ : ∀ e m, m.length ≤ 100000 → log_Changed a c (fun x n f => J e f e (orL [faultL a, faultH c]) a c m x n m k) = k true) :
    (log_MergeChanges c d fun r89 r90 => log_Changed a c fun r94 r95 r96 => Q_ChangesFault c fun r103 => Q_ChangesFault d fun r104 => law_errs [r103, r104] fun r105 => Q_LogFault a fun r106 => Q_ChangesFault c fun r107 => law_errs [r106, r107] fun r108 =>
      bif r105 == 0 then (Q_ChangesOf c d fun r183 r184 => J r90 r96 r184 r108 a c r89 r94 r95 r183 k) else J r90 r96 r105 r108 a c r89 r94 r95 [] k) = k true := by
  have hml := mergeH_len c d
  simp only [log_MergeChanges_is hc hd hcd, Q_ChangesFault_is hc (show c.length ≤ 100000 by omega), Q_ChangesFault_is hd (show d.length ≤ 100000 by omega), Q_LogFault_is ha (show a.length ≤ 100000 by omega),
    law_errs_is [faultH c, faultH d] (by simp), law_errs_is [faultL a, faultH c] (by simp)]
  cases h : orL [faultH c, faultH d] != 0 with
  | true =>
    have h2 : (orL [faultH c, faultH d] == 0) = false := by simpa using h
    simp only [cond_true, h2, cond_false]
    exact hJ _ [] (by simp)
  | false =>
    have h2 : orL [faultH c, faultH d] = 0 := by simpa using h
    have hz := orL_zero.1 h2
    simp only [cond_false, h2, beq_self_eq_true, cond_true, Q_ChangesOf_is hc hd (faultH_inc (hz _ (by simp))).1 (faultH_inc (hz _ (by simp))).1 (show c.length ≤ 1000 by omega) (show d.length ≤ 1000 by omega)]
    refine hJ _ _ ?_
    unfold mergedH
    cases confB c d <;> cases decide (((mergeH c d).length : Int) > 1000) <;> simp only [cond_true, cond_false, List.length_nil] <;> omega
theorem law_LogsChanged_true (l : List Int) (R : Type) (k : Bool → Option R) : law_LogsChanged l k = k true := by
  obtain ⟨n, s1, n1, n2, z1, e1⟩ := Stream_Range_gives (sOk0 l) 0 6 (by omega) (by omega) (by omega) (by omega) (by omega)
  obtain ⟨n, rfl⟩ : ∃ m : Nat, n = (m : Int) := ⟨n.toNat, by omega⟩
  obtain ⟨a, s2, z2, la, ha, e2⟩ := Stream_Contacts_gives z1 (by omega) n (by omega)
  obtain ⟨c, s3, z3, lc, hc, e3⟩ := Stream_Changes_gives (l := a) (by omega) ha z2 (by omega)
  obtain ⟨d, s4, z4, ld, hd, e4⟩ := Stream_Changes_gives (l := a) (by omega) ha z3 (by omega)
  have ha' : ∀ x ∈ a, Fine x := fun x h => (ha x h).1
  have hc' : ∀ x ∈ c, FineH x := fun x h => (hc x h).1
  have hd' : ∀ x ∈ d, FineH x := fun x h => (hd x h).1
  have f1 := fun (d : List G_Change) (hd : ∀ c ∈ d, FineH c) (hl : c.length + d.length ≤ 20) => LH_end a c d ha' hc' hd (by omega) hl R k (fun a b c d l x m n o p k => law_LogsChanged_J15 I_law_LogsChanged a b c d l x m n o p k) (fun e m hm => LH_J15 e 0 a c m ha' hc' (by omega) (by omega) hm R k)
  have f2 := fun (d : List G_Change) (hd : ∀ c ∈ d, FineH c) (hl : c.length + d.length ≤ 20) => LH_end a c d ha' hc' hd (by omega) hl R k (fun a b c d l x m n o p k => law_LogsChanged_J15_1 I_law_LogsChanged a b c d l x m n o p k) (fun e m hm => LH_J15 e 0 a c m ha' hc' (by omega) (by omega) hm R k)
  have j6 : ∀ (f : Bool) (s : G_Stream), SOk 10000 s → (f = true → 0 < c.length) →
      (∃ d', (∀ x ∈ d', FineH x) ∧ d'.length ≤ 6 ∧ ∀ (R : Type) (e0 : List G_Contact → List G_Change → List G_Change → List G_Change → Option R) (e1 : List G_Contact → List G_Change → List G_Change → Option R), law_LogsChanged_J6 I_law_LogsChanged f s a c d e0 e1 = e0 a c d d') ∨
      (∀ (R : Type) (e0 : List G_Contact → List G_Change → List G_Change → List G_Change → Option R) (e1 : List G_Contact → List G_Change → List G_Change → Option R), law_LogsChanged_J6 I_law_LogsChanged f s a c d e0 e1 = e1 a c d) := by
    intro f s hs hf
    cases f with
    | false => exact .inr fun R e0 e1 => by simp only [law_LogsChanged_J6, cond_false]
    | true =>
      have hpos := hf rfl
      obtain ⟨r, s1, r1, r2, w1, f1⟩ := Stream_Next_gives hs (c.length : Int) (by omega) (by omega)
      obtain ⟨g, s2, w2, f2⟩ := Stream_Flip_gives w1 4 (by omega) (by omega)
      have r3 := r2 (by omega)
      have hdd : (decide (0 ≤ r) && decide (r ≤ (c.length : Int))) = true := by simp; omega
      have hdrop : ∀ x ∈ c.drop r.toNat, FineS x := fun x h => hc x (List.mem_of_mem_drop h)
      cases g with
      | false =>
        refine .inl ⟨c.drop r.toNat, fun x h => (hdrop x h).1, by simp; omega, fun R e0 e1 => ?_⟩
        simp only [law_LogsChanged_J6, I_law_LogsChanged, cond_true, f1, hdd, cloneH_is (show (c.drop r.toNat).length ≤ 1000000 by simp; omega), f2, cond_false]
      | true =>
        obtain ⟨y, ys, hy⟩ : ∃ y ys, c.drop r.toNat = y :: ys := by
          cases hq : c.drop r.toNat with
          | nil => have := congrArg List.length hq; simp at this; omega
          | cons y ys => exact ⟨y, ys, rfl⟩
        rw [hy] at hdrop
        obtain ⟨fy, hh⟩ := hdrop y (by simp)
        have hi := fy.is
        have hw : w64 (y.f_Is.f_Heard + 1) = y.f_Is.f_Heard + 1 := w64_eq (by have := hi.heard; omega) (by omega)
        refine .inl ⟨⟨y.f_No, y.f_Kind, y.f_Was, ⟨y.f_Is.f_At, y.f_Is.f_Mode, y.f_Is.f_Band, y.f_Is.f_Call, y.f_Is.f_Sent, y.f_Is.f_Heard + 1, y.f_Is.f_Gave, y.f_Is.f_Got⟩⟩ :: ys, fun x h => ?_, ?_, fun R e0 e1 => ?_⟩
        · rcases List.mem_cons.1 h with rfl | h
          · exact ⟨fy.no, fy.kind, fy.was, ⟨hi.at1, hi.mode, hi.sent, ⟨by have := hi.heard; simp only; omega, by simp only; omega⟩, hi.band, hi.call, hi.gave, hi.got⟩⟩
          · exact (hdrop x (by simp [h])).1
        · have := congrArg List.length hy; simp at this ⊢; omega
        · have i0 : ∀ {R : Type} (k : Option R), inr (y :: ys) 0 k = k := fun k => inr_nat (i := 0) (by simp) k
          have a0 : ∀ {R : Type} (k : G_Change → Option R), at_ (y :: ys) 0 k = k y := fun k => at_nat (i := 0) rfl k
          have sl := cloneH_is (show (c.drop r.toNat).length ≤ 1000000 by simp; omega)
          rw [hy] at sl
          simp only [law_LogsChanged_J6, I_law_LogsChanged, cond_true, f1, hdd, hy, sl, f2, i0, a0, hw]
          rfl
  simp only [I_law_LogsChanged] at f1 f2 j6
  simp only [law_LogsChanged, law_LogsChanged_, I_law_LogsChanged, e1, e2, e3, e4]
  cases hd0 : decide ((c.length : Int) > 0) with
  | true =>
    obtain ⟨f, s7, z7, e7⟩ := Stream_Flip_gives z4 2 (by omega) (by omega)
    simp only [cond_true, e7]
    rcases j6 f s7 (z7.mono (by omega)) (fun _ => by simpa using hd0) with ⟨d', g1, g2, g3⟩ | g3
    · simp only [g3]; exact f1 d' g1 (by omega)
    · simp only [g3]; exact f2 d hd' (by omega)
  | false =>
    simp only [cond_false]
    rcases j6 false s4 (z4.mono (by omega)) (fun h => by cases h) with ⟨d', g1, g2, g3⟩ | g3
    · simp only [g3]; exact f1 d' g1 (by omega)
    · simp only [g3]; exact f2 d hd' (by omega)
end Go.Am
