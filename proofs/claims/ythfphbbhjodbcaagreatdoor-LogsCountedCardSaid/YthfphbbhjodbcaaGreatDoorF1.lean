/- The functions of the program as Lean functions, each shown to be what the code computes, part 1. No condition: lemmas for the claim. -/
import Derived.Test.YthfphbbhjodbcaaGreatDoorF0
import Derived.Test.YthfphbbhjodbcaaGreatDoorFSh
set_option linter.unusedVariables false
set_option maxRecDepth 100000
namespace Go.Am
open Go Go.Proofs
abbrev TF55 : Type 1 := Int → Int → {R : Type} → (Int → Option R) → Option R
def F55_ (N : Nat) (a1 : Int) (a2 : Int) {R : Type} (k0 : Int → Option R) : Option R :=
  (bif (decide (a2 < 1)) then k0 0 else (bif (a2 == 0) then none else (bif (decide ((Int.tmod a1 a2) < 0)) then k0 ((IntKind.i64.wrap ((Int.tmod a1 a2) + a2))) else k0 (Int.tmod a1 a2))))
def F55 (N : Nat) : TF55 := @F55_ N
def p_F55 (args : List (IV A)) : Bool := match args with | [.d (.int .i64 _), .d (.int .i64 _)] => true | _ => false
def SS_F55 (g : TF55) : Spec A := fun args _ k => match args with | [.d (.int .i64 a1), .d (.int .i64 a2)] => g a1 a2 (fun z0 => k (.d (.int .i64 z0)) [.undef, .undef]) | _ => none
def S_F55 (N : Nat) : Spec A := SS_F55 (F55 N)
noncomputable def code_55 : Code := (Tryz.f55.body).getD .skip
def C_F55_ : List (Nat × Spec A) := []
def C_F55 (N : Nat) : List (Nat × Spec A) := C_F55_
noncomputable def E_F55_ (N : Nat) : Env A := { P := Tryz.prog, T := T, C := fun f => (C_F55_).lookup f, tg := fun d => ([].lookup d).getD [], seqH := fun _ => none, loopH := fun i => [].lookup i, exitH := fun i => [].lookup i, cutL := fun _ => none, mode := fun f i => [].contains (f, i), keyed := keyT, flat := flatT, pin := [] }
noncomputable def E_F55 (N : Nat) : Env A := E_F55_ N
theorem tg_F55 (N : Nat) (a1 : Int) (a2 : Int) (R : Type) (k : IV A → List (IV A) → Option R) : abody (E_F55_ N) Tryz.f55 code_55 0 [] [.asis] N [.d (.int .i64 a1), .d (.int .i64 a2)] k = SS_F55 (@F55_ N) [.d (.int .i64 a1), .d (.int .i64 a2)] k := by kernel_rfl
theorem t_F55 (N : Nat) (a1 : Int) (a2 : Int) (R : Type) (k : IV A → List (IV A) → Option R) : abody (E_F55 N) Tryz.f55 code_55 0 [] [.asis] N [.d (.int .i64 a1), .d (.int .i64 a2)] k = S_F55 N [.d (.int .i64 a1), .d (.int .i64 a2)] k := tg_F55 N a1 a2 R k
theorem en_55 : Enters Tryz.prog 55 := enters_of (fn := Tryz.f55) (by kernel_rfl) (by kernel_rfl) (by kernel_rfl)
theorem en_F55 : Enters Tryz.prog 55 := en_55
theorem tl_F55 (N : Nat) : TabL Tryz.prog T (C_F55 N) := .nil
theorem nl_F55 (N : Nat) : NatL (C_F55 N) := .nil
theorem ct_F55 (N : Nat) : NatTab (E_F55 N).C := tab_nat (l := C_F55 N) (nl_F55 N)
theorem eo_F55 (N : Nat) : EnvOk (E_F55 N) := ⟨tyOk Tryz.prog, tab_sound (l := C_F55 N) (tl_F55 N), flatOk, keysOk⟩
theorem ll_F55 : loopsOf code_55 = [] := by kernel_rfl
theorem fi_F55 (N : Nat) : FineL (E_F55 N) N [] := .nil
theorem cc_F55 (N : Nat) : CutsOk (E_F55 N) N code_55 := cuts_of (fun _ => rfl) code_55 (by rw [ll_F55]; exact fi_F55 N)
theorem v_F55 (args : List (IV A)) : (∀ (N : Nat) (R : Type) (k : IV A → List (IV A) → Option R), S_F55 N args k = none) ∨ ∃ (a1 : Int) (a2 : Int), args = [.d (.int .i64 a1), .d (.int .i64 a2)] := by
  by_cases h : ∃ (a1 : Int) (a2 : Int), args = [.d (.int .i64 a1), .d (.int .i64 a2)]
  · exact .inr h
  · refine .inl (fun N R k => ?_)
    unfold S_F55 SS_F55
    split
    · exact absurd ⟨_, _, rfl⟩ h
    · rfl
theorem sm_F55 (N : Nat) : Same (S_F55 N) (abody (E_F55 N) Tryz.f55 code_55 0 [] [.asis] N) := by
  intro args
  rcases v_F55 args with h | ⟨a1, a2, rfl⟩
  · exact .inl (h N)
  · exact .inr (fun R k => (t_F55 N a1 a2 R k).symm)
theorem fu_55 : Tryz.prog.funcs[55]? = some Tryz.f55 := by kernel_rfl
theorem bo_55 : Tryz.f55.body = some code_55 := by kernel_rfl
theorem fs_F55 (N : Nat) : FnSound Tryz.prog T 55 (S_F55 N) := fs_of (E_F55 N) rfl rfl (eo_F55 N) (ct_F55 N) mixed fu_55 bo_55 0 [] [.asis] N (cc_F55 N) (sm_F55 N)
theorem na_F55 (N : Nat) : NatSpec (S_F55 N) := na_of (E_F55 N) (ct_F55 N) Tryz.f55 code_55 0 [] [.asis] N (cc_F55 N) (sm_F55 N)
abbrev TF30 : Type 1 := List (Int) → Int → Int → {R : Type} → (Int → List (Int) → Int → Option R) → Option R
def F30_ (g55 : TF55) (N : Nat) (a1 : List (Int)) (a2 : Int) (a3 : Int) {R : Type} (k0 : Int → List (Int) → Int → Option R) : Option R :=
  (bif ((a1.length : Int) == 0) then (g55 ((IntKind.i64.wrap ((IntKind.i64.wrap (a2 + 1)) * 7919))) a3 (fun r4 => k0 r4 a1 ((IntKind.i64.wrap (a2 + 1))))) else (bif ((a1.length : Int) == 0) then none else (bif ((a1.length : Int) == 0) then none else (bif (decide (0 ≤ (Int.tmod (IntKind.i64.wrap ((IntKind.i64.wrap (a2 + 1)) - 1)) (a1.length : Int)))) then (match a1[((Int.tmod (IntKind.i64.wrap ((IntKind.i64.wrap (a2 + 1)) - 1)) (a1.length : Int)) : Int).toNat]? with | some x5 => (g55 x5 1073741824 (fun r6 => (g55 ((IntKind.i64.wrap (r6 + (IntKind.i64.wrap ((IntKind.i64.wrap (Int.tdiv (IntKind.i64.wrap ((IntKind.i64.wrap (a2 + 1)) - 1)) (a1.length : Int))) * (IntKind.i64.wrap (7919 + (Int.tmod (IntKind.i64.wrap ((IntKind.i64.wrap (a2 + 1)) - 1)) (a1.length : Int))))))))) a3 (fun r7 => k0 r7 a1 ((IntKind.i64.wrap (a2 + 1))))))) | none => none) else none))))
def F30 (N : Nat) : TF30 := @F30_ (@F55 N) N
def p_F30 (args : List (IV A)) : Bool := match args with | [.box [.d (.sl 3 _), .d (.int .i64 _)], .d (.int .i64 _)] => true | _ => false
def SS_F30 (g : TF30) : Spec A := fun args _ k => match args with | [.box [.d (.sl 3 a1), .d (.int .i64 a2)], .d (.int .i64 a3)] => g a1 a2 a3 (fun z0 z1 z2 => k (.d (.int .i64 z0)) [.box [.d (.sl 3 z1), .d (.int .i64 z2)], .undef]) | _ => none
def S_F30 (N : Nat) : Spec A := SS_F30 (F30 N)
noncomputable def code_30 : Code := (Tryz.f30.body).getD .skip
def C_F30_ (g55 : TF55) : List (Nat × Spec A) := [(55, SS_F55 g55)]
def C_F30 (N : Nat) : List (Nat × Spec A) := C_F30_ (@F55 N)
noncomputable def E_F30_ (g55 : TF55) (N : Nat) : Env A := { P := Tryz.prog, T := T, C := fun f => (C_F30_ g55).lookup f, tg := fun d => ([].lookup d).getD [], seqH := fun _ => none, loopH := fun i => [].lookup i, exitH := fun i => [].lookup i, cutL := fun _ => none, mode := fun f i => [].contains (f, i), keyed := keyT, flat := flatT, pin := [0] }
noncomputable def E_F30 (N : Nat) : Env A := E_F30_ (@F55 N) N
theorem tg_F30 (g55 : TF55) (N : Nat) (a1 : List (Int)) (a2 : Int) (a3 : Int) (R : Type) (k : IV A → List (IV A) → Option R) : abody (E_F30_ g55 N) Tryz.f30 code_30 1 [0] [.asis] N [.box [.d (.sl 3 a1), .d (.int .i64 a2)], .d (.int .i64 a3)] k = SS_F30 (@F30_ g55 N) [.box [.d (.sl 3 a1), .d (.int .i64 a2)], .d (.int .i64 a3)] k := by kernel_rfl
theorem t_F30 (N : Nat) (a1 : List (Int)) (a2 : Int) (a3 : Int) (R : Type) (k : IV A → List (IV A) → Option R) : abody (E_F30 N) Tryz.f30 code_30 1 [0] [.asis] N [.box [.d (.sl 3 a1), .d (.int .i64 a2)], .d (.int .i64 a3)] k = S_F30 N [.box [.d (.sl 3 a1), .d (.int .i64 a2)], .d (.int .i64 a3)] k := tg_F30 (@F55 N) N a1 a2 a3 R k
theorem en_30 : Enters Tryz.prog 30 := enters_of (fn := Tryz.f30) (by kernel_rfl) (by kernel_rfl) (by kernel_rfl)
theorem en_F30 : Enters Tryz.prog 30 := en_30
theorem tl_F30 (N : Nat) : TabL Tryz.prog T (C_F30 N) := (.cons (fs_F55 N) en_F55 .nil)
theorem nl_F30 (N : Nat) : NatL (C_F30 N) := (.cons (na_F55 N) .nil)
theorem ct_F30 (N : Nat) : NatTab (E_F30 N).C := tab_nat (l := C_F30 N) (nl_F30 N)
theorem eo_F30 (N : Nat) : EnvOk (E_F30 N) := ⟨tyOk Tryz.prog, tab_sound (l := C_F30 N) (tl_F30 N), flatOk, keysOk⟩
theorem ll_F30 : loopsOf code_30 = [] := by kernel_rfl
theorem fi_F30 (N : Nat) : FineL (E_F30 N) N [] := .nil
theorem cc_F30 (N : Nat) : CutsOk (E_F30 N) N code_30 := cuts_of (fun _ => rfl) code_30 (by rw [ll_F30]; exact fi_F30 N)
theorem v_F30 (args : List (IV A)) : (∀ (N : Nat) (R : Type) (k : IV A → List (IV A) → Option R), S_F30 N args k = none) ∨ ∃ (a1 : List (Int)) (a2 : Int) (a3 : Int), args = [.box [.d (.sl 3 a1), .d (.int .i64 a2)], .d (.int .i64 a3)] := by
  by_cases h : ∃ (a1 : List (Int)) (a2 : Int) (a3 : Int), args = [.box [.d (.sl 3 a1), .d (.int .i64 a2)], .d (.int .i64 a3)]
  · exact .inr h
  · refine .inl (fun N R k => ?_)
    unfold S_F30 SS_F30
    split
    · exact absurd ⟨_, _, _, rfl⟩ h
    · rfl
theorem sm_F30 (N : Nat) : Same (S_F30 N) (abody (E_F30 N) Tryz.f30 code_30 1 [0] [.asis] N) := by
  intro args
  rcases v_F30 args with h | ⟨a1, a2, a3, rfl⟩
  · exact .inl (h N)
  · exact .inr (fun R k => (t_F30 N a1 a2 a3 R k).symm)
theorem fu_30 : Tryz.prog.funcs[30]? = some Tryz.f30 := by kernel_rfl
theorem bo_30 : Tryz.f30.body = some code_30 := by kernel_rfl
theorem fs_F30 (N : Nat) : FnSound Tryz.prog T 30 (S_F30 N) := fs_of (E_F30 N) rfl rfl (eo_F30 N) (ct_F30 N) mixed fu_30 bo_30 1 [0] [.asis] N (cc_F30 N) (sm_F30 N)
theorem na_F30 (N : Nat) : NatSpec (S_F30 N) := na_of (E_F30 N) (ct_F30 N) Tryz.f30 code_30 1 [0] [.asis] N (cc_F30 N) (sm_F30 N)
abbrev TF6 : Type 1 := List (Int) → Int → Int → Int → {R : Type} → (Int → List (Int) → Int → Option R) → Option R
def F6_ (g30 : TF30) (N : Nat) (a1 : List (Int)) (a2 : Int) (a3 : Int) (a4 : Int) {R : Type} (k0 : Int → List (Int) → Int → Option R) : Option R :=
  (bif (decide (a4 < a3)) then k0 a3 a1 a2 else (g30 a1 a2 ((IntKind.i64.wrap ((IntKind.i64.wrap (a4 - a3)) + 1))) (fun r5 r6 r7 => k0 ((IntKind.i64.wrap (a3 + r5))) r6 r7)))
def F6 (N : Nat) : TF6 := @F6_ (@F30 N) N
def p_F6 (args : List (IV A)) : Bool := match args with | [.box [.d (.sl 3 _), .d (.int .i64 _)], .d (.int .i64 _), .d (.int .i64 _)] => true | _ => false
def SS_F6 (g : TF6) : Spec A := fun args _ k => match args with | [.box [.d (.sl 3 a1), .d (.int .i64 a2)], .d (.int .i64 a3), .d (.int .i64 a4)] => g a1 a2 a3 a4 (fun z0 z1 z2 => k (.d (.int .i64 z0)) [.box [.d (.sl 3 z1), .d (.int .i64 z2)], .undef, .undef]) | _ => none
def S_F6 (N : Nat) : Spec A := SS_F6 (F6 N)
noncomputable def code_6 : Code := (Tryz.f6.body).getD .skip
def C_F6_ (g30 : TF30) : List (Nat × Spec A) := [(30, SS_F30 g30)]
def C_F6 (N : Nat) : List (Nat × Spec A) := C_F6_ (@F30 N)
noncomputable def E_F6_ (g30 : TF30) (N : Nat) : Env A := { P := Tryz.prog, T := T, C := fun f => (C_F6_ g30).lookup f, tg := fun d => ([].lookup d).getD [], seqH := fun _ => none, loopH := fun i => [].lookup i, exitH := fun i => [].lookup i, cutL := fun _ => none, mode := fun f i => [].contains (f, i), keyed := keyT, flat := flatT, pin := [0] }
noncomputable def E_F6 (N : Nat) : Env A := E_F6_ (@F30 N) N
theorem tg_F6 (g30 : TF30) (N : Nat) (a1 : List (Int)) (a2 : Int) (a3 : Int) (a4 : Int) (R : Type) (k : IV A → List (IV A) → Option R) : abody (E_F6_ g30 N) Tryz.f6 code_6 1 [0] [.asis] N [.box [.d (.sl 3 a1), .d (.int .i64 a2)], .d (.int .i64 a3), .d (.int .i64 a4)] k = SS_F6 (@F6_ g30 N) [.box [.d (.sl 3 a1), .d (.int .i64 a2)], .d (.int .i64 a3), .d (.int .i64 a4)] k := by kernel_rfl
theorem t_F6 (N : Nat) (a1 : List (Int)) (a2 : Int) (a3 : Int) (a4 : Int) (R : Type) (k : IV A → List (IV A) → Option R) : abody (E_F6 N) Tryz.f6 code_6 1 [0] [.asis] N [.box [.d (.sl 3 a1), .d (.int .i64 a2)], .d (.int .i64 a3), .d (.int .i64 a4)] k = S_F6 N [.box [.d (.sl 3 a1), .d (.int .i64 a2)], .d (.int .i64 a3), .d (.int .i64 a4)] k := tg_F6 (@F30 N) N a1 a2 a3 a4 R k
theorem en_6 : Enters Tryz.prog 6 := enters_of (fn := Tryz.f6) (by kernel_rfl) (by kernel_rfl) (by kernel_rfl)
theorem en_F6 : Enters Tryz.prog 6 := en_6
theorem tl_F6 (N : Nat) : TabL Tryz.prog T (C_F6 N) := (.cons (fs_F30 N) en_F30 .nil)
theorem nl_F6 (N : Nat) : NatL (C_F6 N) := (.cons (na_F30 N) .nil)
theorem ct_F6 (N : Nat) : NatTab (E_F6 N).C := tab_nat (l := C_F6 N) (nl_F6 N)
theorem eo_F6 (N : Nat) : EnvOk (E_F6 N) := ⟨tyOk Tryz.prog, tab_sound (l := C_F6 N) (tl_F6 N), flatOk, keysOk⟩
theorem ll_F6 : loopsOf code_6 = [] := by kernel_rfl
theorem fi_F6 (N : Nat) : FineL (E_F6 N) N [] := .nil
theorem cc_F6 (N : Nat) : CutsOk (E_F6 N) N code_6 := cuts_of (fun _ => rfl) code_6 (by rw [ll_F6]; exact fi_F6 N)
theorem v_F6 (args : List (IV A)) : (∀ (N : Nat) (R : Type) (k : IV A → List (IV A) → Option R), S_F6 N args k = none) ∨ ∃ (a1 : List (Int)) (a2 : Int) (a3 : Int) (a4 : Int), args = [.box [.d (.sl 3 a1), .d (.int .i64 a2)], .d (.int .i64 a3), .d (.int .i64 a4)] := by
  by_cases h : ∃ (a1 : List (Int)) (a2 : Int) (a3 : Int) (a4 : Int), args = [.box [.d (.sl 3 a1), .d (.int .i64 a2)], .d (.int .i64 a3), .d (.int .i64 a4)]
  · exact .inr h
  · refine .inl (fun N R k => ?_)
    unfold S_F6 SS_F6
    split
    · exact absurd ⟨_, _, _, _, rfl⟩ h
    · rfl
theorem sm_F6 (N : Nat) : Same (S_F6 N) (abody (E_F6 N) Tryz.f6 code_6 1 [0] [.asis] N) := by
  intro args
  rcases v_F6 args with h | ⟨a1, a2, a3, a4, rfl⟩
  · exact .inl (h N)
  · exact .inr (fun R k => (t_F6 N a1 a2 a3 a4 R k).symm)
theorem fu_6 : Tryz.prog.funcs[6]? = some Tryz.f6 := by kernel_rfl
theorem bo_6 : Tryz.f6.body = some code_6 := by kernel_rfl
theorem fs_F6 (N : Nat) : FnSound Tryz.prog T 6 (S_F6 N) := fs_of (E_F6 N) rfl rfl (eo_F6 N) (ct_F6 N) mixed fu_6 bo_6 1 [0] [.asis] N (cc_F6 N) (sm_F6 N)
theorem na_F6 (N : Nat) : NatSpec (S_F6 N) := na_of (E_F6 N) (ct_F6 N) Tryz.f6 code_6 1 [0] [.asis] N (cc_F6 N) (sm_F6 N)
abbrev TF7 : Type 1 := List (Int) → Int → List (Int) → {R : Type} → (Int → List (Int) → Int → Option R) → Option R
def F7_ (g30 : TF30) (N : Nat) (a1 : List (Int)) (a2 : Int) (a3 : List (Int)) {R : Type} (k0 : Int → List (Int) → Int → Option R) : Option R :=
  (g30 a1 a2 (a3.length : Int) (fun r4 r5 r6 => (bif (decide (0 ≤ r4)) then (match a3[(r4 : Int).toNat]? with | some x7 => k0 x7 r5 r6 | none => none) else none)))
def F7 (N : Nat) : TF7 := @F7_ (@F30 N) N
def p_F7 (args : List (IV A)) : Bool := match args with | [.box [.d (.sl 3 _), .d (.int .i64 _)], .d (.sl 3 _)] => true | _ => false
def SS_F7 (g : TF7) : Spec A := fun args _ k => match args with | [.box [.d (.sl 3 a1), .d (.int .i64 a2)], .d (.sl 3 a3)] => g a1 a2 a3 (fun z0 z1 z2 => k (.d (.int .i64 z0)) [.box [.d (.sl 3 z1), .d (.int .i64 z2)], .undef]) | _ => none
def S_F7 (N : Nat) : Spec A := SS_F7 (F7 N)
noncomputable def code_7 : Code := (Tryz.f7.body).getD .skip
def C_F7_ (g30 : TF30) : List (Nat × Spec A) := [(30, SS_F30 g30)]
def C_F7 (N : Nat) : List (Nat × Spec A) := C_F7_ (@F30 N)
noncomputable def E_F7_ (g30 : TF30) (N : Nat) : Env A := { P := Tryz.prog, T := T, C := fun f => (C_F7_ g30).lookup f, tg := fun d => ([].lookup d).getD [], seqH := fun _ => none, loopH := fun i => [].lookup i, exitH := fun i => [].lookup i, cutL := fun _ => none, mode := fun f i => [].contains (f, i), keyed := keyT, flat := flatT, pin := [0] }
noncomputable def E_F7 (N : Nat) : Env A := E_F7_ (@F30 N) N
theorem tg_F7 (g30 : TF30) (N : Nat) (a1 : List (Int)) (a2 : Int) (a3 : List (Int)) (R : Type) (k : IV A → List (IV A) → Option R) : abody (E_F7_ g30 N) Tryz.f7 code_7 1 [0] [.asis] N [.box [.d (.sl 3 a1), .d (.int .i64 a2)], .d (.sl 3 a3)] k = SS_F7 (@F7_ g30 N) [.box [.d (.sl 3 a1), .d (.int .i64 a2)], .d (.sl 3 a3)] k := by kernel_rfl
theorem t_F7 (N : Nat) (a1 : List (Int)) (a2 : Int) (a3 : List (Int)) (R : Type) (k : IV A → List (IV A) → Option R) : abody (E_F7 N) Tryz.f7 code_7 1 [0] [.asis] N [.box [.d (.sl 3 a1), .d (.int .i64 a2)], .d (.sl 3 a3)] k = S_F7 N [.box [.d (.sl 3 a1), .d (.int .i64 a2)], .d (.sl 3 a3)] k := tg_F7 (@F30 N) N a1 a2 a3 R k
theorem en_7 : Enters Tryz.prog 7 := enters_of (fn := Tryz.f7) (by kernel_rfl) (by kernel_rfl) (by kernel_rfl)
theorem en_F7 : Enters Tryz.prog 7 := en_7
theorem tl_F7 (N : Nat) : TabL Tryz.prog T (C_F7 N) := (.cons (fs_F30 N) en_F30 .nil)
theorem nl_F7 (N : Nat) : NatL (C_F7 N) := (.cons (na_F30 N) .nil)
theorem ct_F7 (N : Nat) : NatTab (E_F7 N).C := tab_nat (l := C_F7 N) (nl_F7 N)
theorem eo_F7 (N : Nat) : EnvOk (E_F7 N) := ⟨tyOk Tryz.prog, tab_sound (l := C_F7 N) (tl_F7 N), flatOk, keysOk⟩
theorem ll_F7 : loopsOf code_7 = [] := by kernel_rfl
theorem fi_F7 (N : Nat) : FineL (E_F7 N) N [] := .nil
theorem cc_F7 (N : Nat) : CutsOk (E_F7 N) N code_7 := cuts_of (fun _ => rfl) code_7 (by rw [ll_F7]; exact fi_F7 N)
theorem v_F7 (args : List (IV A)) : (∀ (N : Nat) (R : Type) (k : IV A → List (IV A) → Option R), S_F7 N args k = none) ∨ ∃ (a1 : List (Int)) (a2 : Int) (a3 : List (Int)), args = [.box [.d (.sl 3 a1), .d (.int .i64 a2)], .d (.sl 3 a3)] := by
  by_cases h : ∃ (a1 : List (Int)) (a2 : Int) (a3 : List (Int)), args = [.box [.d (.sl 3 a1), .d (.int .i64 a2)], .d (.sl 3 a3)]
  · exact .inr h
  · refine .inl (fun N R k => ?_)
    unfold S_F7 SS_F7
    split
    · exact absurd ⟨_, _, _, rfl⟩ h
    · rfl
theorem sm_F7 (N : Nat) : Same (S_F7 N) (abody (E_F7 N) Tryz.f7 code_7 1 [0] [.asis] N) := by
  intro args
  rcases v_F7 args with h | ⟨a1, a2, a3, rfl⟩
  · exact .inl (h N)
  · exact .inr (fun R k => (t_F7 N a1 a2 a3 R k).symm)
theorem fu_7 : Tryz.prog.funcs[7]? = some Tryz.f7 := by kernel_rfl
theorem bo_7 : Tryz.f7.body = some code_7 := by kernel_rfl
theorem fs_F7 (N : Nat) : FnSound Tryz.prog T 7 (S_F7 N) := fs_of (E_F7 N) rfl rfl (eo_F7 N) (ct_F7 N) mixed fu_7 bo_7 1 [0] [.asis] N (cc_F7 N) (sm_F7 N)
theorem na_F7 (N : Nat) : NatSpec (S_F7 N) := na_of (E_F7 N) (ct_F7 N) Tryz.f7 code_7 1 [0] [.asis] N (cc_F7 N) (sm_F7 N)
abbrev TF52 : Type 1 := List (Int) → Int → List (List UInt8) → {R : Type} → (List UInt8 → List (Int) → Int → Option R) → Option R
def F52_ (g30 : TF30) (N : Nat) (a1 : List (Int)) (a2 : Int) (a3 : List (List UInt8)) {R : Type} (k0 : List UInt8 → List (Int) → Int → Option R) : Option R :=
  (g30 a1 a2 (a3.length : Int) (fun r4 r5 r6 => (bif (decide (0 ≤ r4)) then (match a3[(r4 : Int).toNat]? with | some x7 => k0 x7 r5 r6 | none => none) else none)))
def F52 (N : Nat) : TF52 := @F52_ (@F30 N) N
def p_F52 (args : List (IV A)) : Bool := match args with | [.box [.d (.sl 3 _), .d (.int .i64 _)], .d (.sl 9 _)] => true | _ => false
def SS_F52 (g : TF52) : Spec A := fun args _ k => match args with | [.box [.d (.sl 3 a1), .d (.int .i64 a2)], .d (.sl 9 a3)] => g a1 a2 a3 (fun z0 z1 z2 => k (.d (.str z0)) [.box [.d (.sl 3 z1), .d (.int .i64 z2)], .undef]) | _ => none
def S_F52 (N : Nat) : Spec A := SS_F52 (F52 N)
noncomputable def code_52 : Code := (Tryz.f52.body).getD .skip
def C_F52_ (g30 : TF30) : List (Nat × Spec A) := [(30, SS_F30 g30)]
def C_F52 (N : Nat) : List (Nat × Spec A) := C_F52_ (@F30 N)
noncomputable def E_F52_ (g30 : TF30) (N : Nat) : Env A := { P := Tryz.prog, T := T, C := fun f => (C_F52_ g30).lookup f, tg := fun d => ([].lookup d).getD [], seqH := fun _ => none, loopH := fun i => [].lookup i, exitH := fun i => [].lookup i, cutL := fun _ => none, mode := fun f i => [].contains (f, i), keyed := keyT, flat := flatT, pin := [0] }
noncomputable def E_F52 (N : Nat) : Env A := E_F52_ (@F30 N) N
theorem tg_F52 (g30 : TF30) (N : Nat) (a1 : List (Int)) (a2 : Int) (a3 : List (List UInt8)) (R : Type) (k : IV A → List (IV A) → Option R) : abody (E_F52_ g30 N) Tryz.f52 code_52 1 [0] [.asis] N [.box [.d (.sl 3 a1), .d (.int .i64 a2)], .d (.sl 9 a3)] k = SS_F52 (@F52_ g30 N) [.box [.d (.sl 3 a1), .d (.int .i64 a2)], .d (.sl 9 a3)] k := by kernel_rfl
theorem t_F52 (N : Nat) (a1 : List (Int)) (a2 : Int) (a3 : List (List UInt8)) (R : Type) (k : IV A → List (IV A) → Option R) : abody (E_F52 N) Tryz.f52 code_52 1 [0] [.asis] N [.box [.d (.sl 3 a1), .d (.int .i64 a2)], .d (.sl 9 a3)] k = S_F52 N [.box [.d (.sl 3 a1), .d (.int .i64 a2)], .d (.sl 9 a3)] k := tg_F52 (@F30 N) N a1 a2 a3 R k
theorem en_52 : Enters Tryz.prog 52 := enters_of (fn := Tryz.f52) (by kernel_rfl) (by kernel_rfl) (by kernel_rfl)
theorem en_F52 : Enters Tryz.prog 52 := en_52
theorem tl_F52 (N : Nat) : TabL Tryz.prog T (C_F52 N) := (.cons (fs_F30 N) en_F30 .nil)
theorem nl_F52 (N : Nat) : NatL (C_F52 N) := (.cons (na_F30 N) .nil)
theorem ct_F52 (N : Nat) : NatTab (E_F52 N).C := tab_nat (l := C_F52 N) (nl_F52 N)
theorem eo_F52 (N : Nat) : EnvOk (E_F52 N) := ⟨tyOk Tryz.prog, tab_sound (l := C_F52 N) (tl_F52 N), flatOk, keysOk⟩
theorem ll_F52 : loopsOf code_52 = [] := by kernel_rfl
theorem fi_F52 (N : Nat) : FineL (E_F52 N) N [] := .nil
theorem cc_F52 (N : Nat) : CutsOk (E_F52 N) N code_52 := cuts_of (fun _ => rfl) code_52 (by rw [ll_F52]; exact fi_F52 N)
theorem v_F52 (args : List (IV A)) : (∀ (N : Nat) (R : Type) (k : IV A → List (IV A) → Option R), S_F52 N args k = none) ∨ ∃ (a1 : List (Int)) (a2 : Int) (a3 : List (List UInt8)), args = [.box [.d (.sl 3 a1), .d (.int .i64 a2)], .d (.sl 9 a3)] := by
  by_cases h : ∃ (a1 : List (Int)) (a2 : Int) (a3 : List (List UInt8)), args = [.box [.d (.sl 3 a1), .d (.int .i64 a2)], .d (.sl 9 a3)]
  · exact .inr h
  · refine .inl (fun N R k => ?_)
    unfold S_F52 SS_F52
    split
    · exact absurd ⟨_, _, _, rfl⟩ h
    · rfl
theorem sm_F52 (N : Nat) : Same (S_F52 N) (abody (E_F52 N) Tryz.f52 code_52 1 [0] [.asis] N) := by
  intro args
  rcases v_F52 args with h | ⟨a1, a2, a3, rfl⟩
  · exact .inl (h N)
  · exact .inr (fun R k => (t_F52 N a1 a2 a3 R k).symm)
theorem fu_52 : Tryz.prog.funcs[52]? = some Tryz.f52 := by kernel_rfl
theorem bo_52 : Tryz.f52.body = some code_52 := by kernel_rfl
theorem fs_F52 (N : Nat) : FnSound Tryz.prog T 52 (S_F52 N) := fs_of (E_F52 N) rfl rfl (eo_F52 N) (ct_F52 N) mixed fu_52 bo_52 1 [0] [.asis] N (cc_F52 N) (sm_F52 N)
theorem na_F52 (N : Nat) : NatSpec (S_F52 N) := na_of (E_F52 N) (ct_F52 N) Tryz.f52 code_52 1 [0] [.asis] N (cc_F52 N) (sm_F52 N)
abbrev TF8 : Type 1 := List (Int) → Int → Int → {R : Type} → (Bool → List (Int) → Int → Option R) → Option R
def F8_ (g30 : TF30) (N : Nat) (a1 : List (Int)) (a2 : Int) (a3 : Int) {R : Type} (k0 : Bool → List (Int) → Int → Option R) : Option R :=
  (g30 a1 a2 a3 (fun r4 r5 r6 => k0 (r4 == 0) r5 r6))
def F8 (N : Nat) : TF8 := @F8_ (@F30 N) N
def p_F8 (args : List (IV A)) : Bool := match args with | [.box [.d (.sl 3 _), .d (.int .i64 _)], .d (.int .i64 _)] => true | _ => false
def SS_F8 (g : TF8) : Spec A := fun args _ k => match args with | [.box [.d (.sl 3 a1), .d (.int .i64 a2)], .d (.int .i64 a3)] => g a1 a2 a3 (fun z0 z1 z2 => k (.d (.bool z0)) [.box [.d (.sl 3 z1), .d (.int .i64 z2)], .undef]) | _ => none
def S_F8 (N : Nat) : Spec A := SS_F8 (F8 N)
noncomputable def code_8 : Code := (Tryz.f8.body).getD .skip
def C_F8_ (g30 : TF30) : List (Nat × Spec A) := [(30, SS_F30 g30)]
def C_F8 (N : Nat) : List (Nat × Spec A) := C_F8_ (@F30 N)
noncomputable def E_F8_ (g30 : TF30) (N : Nat) : Env A := { P := Tryz.prog, T := T, C := fun f => (C_F8_ g30).lookup f, tg := fun d => ([].lookup d).getD [], seqH := fun _ => none, loopH := fun i => [].lookup i, exitH := fun i => [].lookup i, cutL := fun _ => none, mode := fun f i => [].contains (f, i), keyed := keyT, flat := flatT, pin := [0] }
noncomputable def E_F8 (N : Nat) : Env A := E_F8_ (@F30 N) N
theorem tg_F8 (g30 : TF30) (N : Nat) (a1 : List (Int)) (a2 : Int) (a3 : Int) (R : Type) (k : IV A → List (IV A) → Option R) : abody (E_F8_ g30 N) Tryz.f8 code_8 1 [0] [.asis] N [.box [.d (.sl 3 a1), .d (.int .i64 a2)], .d (.int .i64 a3)] k = SS_F8 (@F8_ g30 N) [.box [.d (.sl 3 a1), .d (.int .i64 a2)], .d (.int .i64 a3)] k := by kernel_rfl
theorem t_F8 (N : Nat) (a1 : List (Int)) (a2 : Int) (a3 : Int) (R : Type) (k : IV A → List (IV A) → Option R) : abody (E_F8 N) Tryz.f8 code_8 1 [0] [.asis] N [.box [.d (.sl 3 a1), .d (.int .i64 a2)], .d (.int .i64 a3)] k = S_F8 N [.box [.d (.sl 3 a1), .d (.int .i64 a2)], .d (.int .i64 a3)] k := tg_F8 (@F30 N) N a1 a2 a3 R k
theorem en_8 : Enters Tryz.prog 8 := enters_of (fn := Tryz.f8) (by kernel_rfl) (by kernel_rfl) (by kernel_rfl)
theorem en_F8 : Enters Tryz.prog 8 := en_8
theorem tl_F8 (N : Nat) : TabL Tryz.prog T (C_F8 N) := (.cons (fs_F30 N) en_F30 .nil)
theorem nl_F8 (N : Nat) : NatL (C_F8 N) := (.cons (na_F30 N) .nil)
theorem ct_F8 (N : Nat) : NatTab (E_F8 N).C := tab_nat (l := C_F8 N) (nl_F8 N)
theorem eo_F8 (N : Nat) : EnvOk (E_F8 N) := ⟨tyOk Tryz.prog, tab_sound (l := C_F8 N) (tl_F8 N), flatOk, keysOk⟩
theorem ll_F8 : loopsOf code_8 = [] := by kernel_rfl
theorem fi_F8 (N : Nat) : FineL (E_F8 N) N [] := .nil
theorem cc_F8 (N : Nat) : CutsOk (E_F8 N) N code_8 := cuts_of (fun _ => rfl) code_8 (by rw [ll_F8]; exact fi_F8 N)
theorem v_F8 (args : List (IV A)) : (∀ (N : Nat) (R : Type) (k : IV A → List (IV A) → Option R), S_F8 N args k = none) ∨ ∃ (a1 : List (Int)) (a2 : Int) (a3 : Int), args = [.box [.d (.sl 3 a1), .d (.int .i64 a2)], .d (.int .i64 a3)] := by
  by_cases h : ∃ (a1 : List (Int)) (a2 : Int) (a3 : Int), args = [.box [.d (.sl 3 a1), .d (.int .i64 a2)], .d (.int .i64 a3)]
  · exact .inr h
  · refine .inl (fun N R k => ?_)
    unfold S_F8 SS_F8
    split
    · exact absurd ⟨_, _, _, rfl⟩ h
    · rfl
theorem sm_F8 (N : Nat) : Same (S_F8 N) (abody (E_F8 N) Tryz.f8 code_8 1 [0] [.asis] N) := by
  intro args
  rcases v_F8 args with h | ⟨a1, a2, a3, rfl⟩
  · exact .inl (h N)
  · exact .inr (fun R k => (t_F8 N a1 a2 a3 R k).symm)
theorem fu_8 : Tryz.prog.funcs[8]? = some Tryz.f8 := by kernel_rfl
theorem bo_8 : Tryz.f8.body = some code_8 := by kernel_rfl
theorem fs_F8 (N : Nat) : FnSound Tryz.prog T 8 (S_F8 N) := fs_of (E_F8 N) rfl rfl (eo_F8 N) (ct_F8 N) mixed fu_8 bo_8 1 [0] [.asis] N (cc_F8 N) (sm_F8 N)
theorem na_F8 (N : Nat) : NatSpec (S_F8 N) := na_of (E_F8 N) (ct_F8 N) Tryz.f8 code_8 1 [0] [.asis] N (cc_F8 N) (sm_F8 N)
abbrev TF53 : Type 1 := List (Int) → Int → {R : Type} → (List UInt8 → List (Int) → Int → Option R) → Option R
def F53_ (g8 : TF8) (g52 : TF52) (N : Nat) (a1 : List (Int)) (a2 : Int) {R : Type} (k0 : List UInt8 → List (Int) → Int → Option R) : Option R :=
  (g8 a1 a2 60 (fun r3 r4 r5 => (bif r3 then (g52 r4 r5 ([[], [107, 49], [75, 49, 65, 66], [107, 49, 97, 98, 47], [49, 97], [107, 49, 97, 98, 47, 109, 109, 47, 112]]) (fun r6 r7 r8 => k0 r6 r7 r8)) else (g52 r4 r5 ([[107, 49, 97, 98], [107, 49, 97, 97], [107, 49, 97, 98, 47, 52], [111, 104, 50, 97, 98, 99], [111, 104, 50, 97, 98, 100], [119, 49, 97, 119], [110, 49, 109, 109], [103, 51, 120, 121, 122, 47, 112]]) (fun r9 r10 r11 => k0 r9 r10 r11)))))
def F53 (N : Nat) : TF53 := @F53_ (@F8 N) (@F52 N) N
def p_F53 (args : List (IV A)) : Bool := match args with | [.box [.d (.sl 3 _), .d (.int .i64 _)]] => true | _ => false
def SS_F53 (g : TF53) : Spec A := fun args _ k => match args with | [.box [.d (.sl 3 a1), .d (.int .i64 a2)]] => g a1 a2 (fun z0 z1 z2 => k (.d (.str z0)) [.box [.d (.sl 3 z1), .d (.int .i64 z2)]]) | _ => none
def S_F53 (N : Nat) : Spec A := SS_F53 (F53 N)
noncomputable def code_53 : Code := (Tryz.f53.body).getD .skip
def C_F53_ (g8 : TF8) (g52 : TF52) : List (Nat × Spec A) := [(8, SS_F8 g8), (52, SS_F52 g52)]
def C_F53 (N : Nat) : List (Nat × Spec A) := C_F53_ (@F8 N) (@F52 N)
noncomputable def E_F53_ (g8 : TF8) (g52 : TF52) (N : Nat) : Env A := { P := Tryz.prog, T := T, C := fun f => (C_F53_ g8 g52).lookup f, tg := fun d => ([(6, [1]), (9, [2])].lookup d).getD [], seqH := fun _ => none, loopH := fun i => [].lookup i, exitH := fun i => [].lookup i, cutL := fun _ => none, mode := fun f i => [].contains (f, i), keyed := keyT, flat := flatT, pin := [0] }
noncomputable def E_F53 (N : Nat) : Env A := E_F53_ (@F8 N) (@F52 N) N
theorem tg_F53 (g8 : TF8) (g52 : TF52) (N : Nat) (a1 : List (Int)) (a2 : Int) (R : Type) (k : IV A → List (IV A) → Option R) : abody (E_F53_ g8 g52 N) Tryz.f53 code_53 3 [0] [.asis] N [.box [.d (.sl 3 a1), .d (.int .i64 a2)]] k = SS_F53 (@F53_ g8 g52 N) [.box [.d (.sl 3 a1), .d (.int .i64 a2)]] k := by kernel_rfl
theorem t_F53 (N : Nat) (a1 : List (Int)) (a2 : Int) (R : Type) (k : IV A → List (IV A) → Option R) : abody (E_F53 N) Tryz.f53 code_53 3 [0] [.asis] N [.box [.d (.sl 3 a1), .d (.int .i64 a2)]] k = S_F53 N [.box [.d (.sl 3 a1), .d (.int .i64 a2)]] k := tg_F53 (@F8 N) (@F52 N) N a1 a2 R k
theorem en_53 : Enters Tryz.prog 53 := enters_of (fn := Tryz.f53) (by kernel_rfl) (by kernel_rfl) (by kernel_rfl)
theorem en_F53 : Enters Tryz.prog 53 := en_53
theorem tl_F53 (N : Nat) : TabL Tryz.prog T (C_F53 N) := (.cons (fs_F8 N) en_F8 (.cons (fs_F52 N) en_F52 .nil))
theorem nl_F53 (N : Nat) : NatL (C_F53 N) := (.cons (na_F8 N) (.cons (na_F52 N) .nil))
theorem ct_F53 (N : Nat) : NatTab (E_F53 N).C := tab_nat (l := C_F53 N) (nl_F53 N)
theorem eo_F53 (N : Nat) : EnvOk (E_F53 N) := ⟨tyOk Tryz.prog, tab_sound (l := C_F53 N) (tl_F53 N), flatOk, keysOk⟩
theorem ll_F53 : loopsOf code_53 = [] := by kernel_rfl
theorem fi_F53 (N : Nat) : FineL (E_F53 N) N [] := .nil
theorem cc_F53 (N : Nat) : CutsOk (E_F53 N) N code_53 := cuts_of (fun _ => rfl) code_53 (by rw [ll_F53]; exact fi_F53 N)
theorem v_F53 (args : List (IV A)) : (∀ (N : Nat) (R : Type) (k : IV A → List (IV A) → Option R), S_F53 N args k = none) ∨ ∃ (a1 : List (Int)) (a2 : Int), args = [.box [.d (.sl 3 a1), .d (.int .i64 a2)]] := by
  by_cases h : ∃ (a1 : List (Int)) (a2 : Int), args = [.box [.d (.sl 3 a1), .d (.int .i64 a2)]]
  · exact .inr h
  · refine .inl (fun N R k => ?_)
    unfold S_F53 SS_F53
    split
    · exact absurd ⟨_, _, rfl⟩ h
    · rfl
theorem sm_F53 (N : Nat) : Same (S_F53 N) (abody (E_F53 N) Tryz.f53 code_53 3 [0] [.asis] N) := by
  intro args
  rcases v_F53 args with h | ⟨a1, a2, rfl⟩
  · exact .inl (h N)
  · exact .inr (fun R k => (t_F53 N a1 a2 R k).symm)
theorem fu_53 : Tryz.prog.funcs[53]? = some Tryz.f53 := by kernel_rfl
theorem bo_53 : Tryz.f53.body = some code_53 := by kernel_rfl
theorem fs_F53 (N : Nat) : FnSound Tryz.prog T 53 (S_F53 N) := fs_of (E_F53 N) rfl rfl (eo_F53 N) (ct_F53 N) mixed fu_53 bo_53 3 [0] [.asis] N (cc_F53 N) (sm_F53 N)
theorem na_F53 (N : Nat) : NatSpec (S_F53 N) := na_of (E_F53 N) (ct_F53 N) Tryz.f53 code_53 3 [0] [.asis] N (cc_F53 N) (sm_F53 N)
abbrev TF54 : Type 1 := List (Int) → Int → Int → Int → {R : Type} → (Int → List (Int) → Int → Option R) → Option R
def F54_ (g6 : TF6) (g7 : TF7) (g8 : TF8) (N : Nat) (a1 : List (Int)) (a2 : Int) (a3 : Int) (a4 : Int) {R : Type} (k0 : Int → List (Int) → Int → Option R) : Option R :=
  (g8 a1 a2 12 (fun r5 r6 r7 => (bif r5 then (g7 r6 r7 [(IntKind.i64.wrap (a3 - 1)), (IntKind.i64.wrap (a4 + 1)), a3, a4, (-1099511627776), 1099511627776] (fun r8 r9 r10 => k0 r8 r9 r10)) else (g6 r6 r7 a3 a4 (fun r11 r12 r13 => k0 r11 r12 r13)))))
def F54 (N : Nat) : TF54 := @F54_ (@F6 N) (@F7 N) (@F8 N) N
def p_F54 (args : List (IV A)) : Bool := match args with | [.box [.d (.sl 3 _), .d (.int .i64 _)], .d (.int .i64 _), .d (.int .i64 _)] => true | _ => false
def SS_F54 (g : TF54) : Spec A := fun args _ k => match args with | [.box [.d (.sl 3 a1), .d (.int .i64 a2)], .d (.int .i64 a3), .d (.int .i64 a4)] => g a1 a2 a3 a4 (fun z0 z1 z2 => k (.d (.int .i64 z0)) [.box [.d (.sl 3 z1), .d (.int .i64 z2)], .undef, .undef]) | _ => none
def S_F54 (N : Nat) : Spec A := SS_F54 (F54 N)
noncomputable def code_54 : Code := (Tryz.f54.body).getD .skip
def C_F54_ (g6 : TF6) (g7 : TF7) (g8 : TF8) : List (Nat × Spec A) := [(6, SS_F6 g6), (7, SS_F7 g7), (8, SS_F8 g8)]
def C_F54 (N : Nat) : List (Nat × Spec A) := C_F54_ (@F6 N) (@F7 N) (@F8 N)
noncomputable def E_F54_ (g6 : TF6) (g7 : TF7) (g8 : TF8) (N : Nat) : Env A := { P := Tryz.prog, T := T, C := fun f => (C_F54_ g6 g7 g8).lookup f, tg := fun d => ([(16, [1])].lookup d).getD [], seqH := fun _ => none, loopH := fun i => [].lookup i, exitH := fun i => [].lookup i, cutL := fun _ => none, mode := fun f i => [].contains (f, i), keyed := keyT, flat := flatT, pin := [0] }
noncomputable def E_F54 (N : Nat) : Env A := E_F54_ (@F6 N) (@F7 N) (@F8 N) N
theorem tg_F54 (g6 : TF6) (g7 : TF7) (g8 : TF8) (N : Nat) (a1 : List (Int)) (a2 : Int) (a3 : Int) (a4 : Int) (R : Type) (k : IV A → List (IV A) → Option R) : abody (E_F54_ g6 g7 g8 N) Tryz.f54 code_54 2 [0] [.asis] N [.box [.d (.sl 3 a1), .d (.int .i64 a2)], .d (.int .i64 a3), .d (.int .i64 a4)] k = SS_F54 (@F54_ g6 g7 g8 N) [.box [.d (.sl 3 a1), .d (.int .i64 a2)], .d (.int .i64 a3), .d (.int .i64 a4)] k := by kernel_rfl
theorem t_F54 (N : Nat) (a1 : List (Int)) (a2 : Int) (a3 : Int) (a4 : Int) (R : Type) (k : IV A → List (IV A) → Option R) : abody (E_F54 N) Tryz.f54 code_54 2 [0] [.asis] N [.box [.d (.sl 3 a1), .d (.int .i64 a2)], .d (.int .i64 a3), .d (.int .i64 a4)] k = S_F54 N [.box [.d (.sl 3 a1), .d (.int .i64 a2)], .d (.int .i64 a3), .d (.int .i64 a4)] k := tg_F54 (@F6 N) (@F7 N) (@F8 N) N a1 a2 a3 a4 R k
theorem en_54 : Enters Tryz.prog 54 := enters_of (fn := Tryz.f54) (by kernel_rfl) (by kernel_rfl) (by kernel_rfl)
theorem en_F54 : Enters Tryz.prog 54 := en_54
theorem tl_F54 (N : Nat) : TabL Tryz.prog T (C_F54 N) := (.cons (fs_F6 N) en_F6 (.cons (fs_F7 N) en_F7 (.cons (fs_F8 N) en_F8 .nil)))
theorem nl_F54 (N : Nat) : NatL (C_F54 N) := (.cons (na_F6 N) (.cons (na_F7 N) (.cons (na_F8 N) .nil)))
theorem ct_F54 (N : Nat) : NatTab (E_F54 N).C := tab_nat (l := C_F54 N) (nl_F54 N)
theorem eo_F54 (N : Nat) : EnvOk (E_F54 N) := ⟨tyOk Tryz.prog, tab_sound (l := C_F54 N) (tl_F54 N), flatOk, keysOk⟩
theorem ll_F54 : loopsOf code_54 = [] := by kernel_rfl
theorem fi_F54 (N : Nat) : FineL (E_F54 N) N [] := .nil
theorem cc_F54 (N : Nat) : CutsOk (E_F54 N) N code_54 := cuts_of (fun _ => rfl) code_54 (by rw [ll_F54]; exact fi_F54 N)
theorem v_F54 (args : List (IV A)) : (∀ (N : Nat) (R : Type) (k : IV A → List (IV A) → Option R), S_F54 N args k = none) ∨ ∃ (a1 : List (Int)) (a2 : Int) (a3 : Int) (a4 : Int), args = [.box [.d (.sl 3 a1), .d (.int .i64 a2)], .d (.int .i64 a3), .d (.int .i64 a4)] := by
  by_cases h : ∃ (a1 : List (Int)) (a2 : Int) (a3 : Int) (a4 : Int), args = [.box [.d (.sl 3 a1), .d (.int .i64 a2)], .d (.int .i64 a3), .d (.int .i64 a4)]
  · exact .inr h
  · refine .inl (fun N R k => ?_)
    unfold S_F54 SS_F54
    split
    · exact absurd ⟨_, _, _, _, rfl⟩ h
    · rfl
theorem sm_F54 (N : Nat) : Same (S_F54 N) (abody (E_F54 N) Tryz.f54 code_54 2 [0] [.asis] N) := by
  intro args
  rcases v_F54 args with h | ⟨a1, a2, a3, a4, rfl⟩
  · exact .inl (h N)
  · exact .inr (fun R k => (t_F54 N a1 a2 a3 a4 R k).symm)
theorem fu_54 : Tryz.prog.funcs[54]? = some Tryz.f54 := by kernel_rfl
theorem bo_54 : Tryz.f54.body = some code_54 := by kernel_rfl
theorem fs_F54 (N : Nat) : FnSound Tryz.prog T 54 (S_F54 N) := fs_of (E_F54 N) rfl rfl (eo_F54 N) (ct_F54 N) mixed fu_54 bo_54 2 [0] [.asis] N (cc_F54 N) (sm_F54 N)
theorem na_F54 (N : Nat) : NatSpec (S_F54 N) := na_of (E_F54 N) (ct_F54 N) Tryz.f54 code_54 2 [0] [.asis] N (cc_F54 N) (sm_F54 N)
abbrev TF28 : Type 1 := List (Int) → Int → Int → {R : Type} → (Int → Int → List UInt8 → List UInt8 → Int → Int → List UInt8 → List UInt8 → List (Int) → Int → Option R) → Option R
def F28_ (g7 : TF7) (g8 : TF8) (g30 : TF30) (g52 : TF52) (g53 : TF53) (g54 : TF54) (N : Nat) (a1 : List (Int)) (a2 : Int) (a3 : Int) {R : Type} (k0 : Int → Int → List UInt8 → List UInt8 → Int → Int → List UInt8 → List UInt8 → List (Int) → Int → Option R) : Option R :=
  (g7 a1 a2 [1, 1, 2, 3] (fun r4 r5 r6 => (g52 r5 r6 ([[98, 50, 48], [98, 50, 48], [98, 52, 48]]) (fun r7 r8 r9 => (g53 r8 r9 (fun r10 r11 r12 => (g7 r11 r12 [0, 1, 2, 3, 4, 5, 6, 7] (fun r13 r14 r15 => (g7 r14 r15 [0, 1, 2, 9] (fun r16 r17 r18 => (g52 r17 r18 ([[], [], [102, 105, 110]]) (fun r19 r20 r21 => (g52 r20 r21 ([[], [], [117, 115, 97]]) (fun r22 r23 r24 => (g8 r23 r24 100 (fun r25 r26 r27 => (bif r25 then (g30 r26 r27 4 (fun r28 r29 r30 => (bif (r28 == 0) then (g54 r29 r30 0 500 (fun r31 r32 r33 => (g54 r32 r33 1 3 (fun r34 r35 r36 => k0 r31 r34 r7 r10 r13 r16 r19 r22 r35 r36)))) else (bif (r28 == 1) then (g52 r29 r30 ([[], [66], [98, 50, 48]]) (fun r37 r38 r39 => k0 a3 r4 r37 r10 r13 r16 r19 r22 r38 r39)) else (bif (r28 == 2) then (g54 r29 r30 0 99999 (fun r40 r41 r42 => (g54 r41 r42 0 99999 (fun r43 r44 r45 => k0 a3 r4 r7 r10 r40 r43 r19 r22 r44 r45)))) else (g52 r29 r30 ([[], [65]]) (fun r46 r47 r48 => (g52 r47 r48 ([[49], [117, 115, 97]]) (fun r49 r50 r51 => k0 a3 r4 r7 r10 r13 r16 r46 r49 r50 r51))))))))) else k0 a3 r4 r7 r10 r13 r16 r19 r22 r26 r27)))))))))))))))))
def F28 (N : Nat) : TF28 := @F28_ (@F7 N) (@F8 N) (@F30 N) (@F52 N) (@F53 N) (@F54 N) N
def p_F28 (args : List (IV A)) : Bool := match args with | [.box [.d (.sl 3 _), .d (.int .i64 _)], .d (.int .i64 _)] => true | _ => false
def SS_F28 (g : TF28) : Spec A := fun args _ k => match args with | [.box [.d (.sl 3 a1), .d (.int .i64 a2)], .d (.int .i64 a3)] => g a1 a2 a3 (fun z0 z1 z2 z3 z4 z5 z6 z7 z8 z9 => k (.agg [.d (.int .i64 z0), .d (.int .i64 z1), .d (.str z2), .d (.str z3), .d (.int .i64 z4), .d (.int .i64 z5), .d (.str z6), .d (.str z7)]) [.box [.d (.sl 3 z8), .d (.int .i64 z9)], .undef]) | _ => none
def S_F28 (N : Nat) : Spec A := SS_F28 (F28 N)
noncomputable def code_28 : Code := (Tryz.f28.body).getD .skip
def C_F28_ (g7 : TF7) (g8 : TF8) (g30 : TF30) (g52 : TF52) (g53 : TF53) (g54 : TF54) : List (Nat × Spec A) := [(7, SS_F7 g7), (8, SS_F8 g8), (30, SS_F30 g30), (52, SS_F52 g52), (53, SS_F53 g53), (54, SS_F54 g54)]
def C_F28 (N : Nat) : List (Nat × Spec A) := C_F28_ (@F7 N) (@F8 N) (@F30 N) (@F52 N) (@F53 N) (@F54 N)
noncomputable def E_F28_ (g7 : TF7) (g8 : TF8) (g30 : TF30) (g52 : TF52) (g53 : TF53) (g54 : TF54) (N : Nat) : Env A := { P := Tryz.prog, T := T, C := fun f => (C_F28_ g7 g8 g30 g52 g53 g54).lookup f, tg := fun d => ([(4, [1]), (5, [8]), (8, [2]), (11, [3]), (16, [4]), (19, [5]), (22, [6]), (25, [7]), (33, [10]), (36, [11]), (51, [9])].lookup d).getD [], seqH := fun _ => none, loopH := fun i => [].lookup i, exitH := fun i => [].lookup i, cutL := fun _ => none, mode := fun f i => [].contains (f, i), keyed := keyT, flat := flatT, pin := [0] }
noncomputable def E_F28 (N : Nat) : Env A := E_F28_ (@F7 N) (@F8 N) (@F30 N) (@F52 N) (@F53 N) (@F54 N) N
theorem tg_F28 (g7 : TF7) (g8 : TF8) (g30 : TF30) (g52 : TF52) (g53 : TF53) (g54 : TF54) (N : Nat) (a1 : List (Int)) (a2 : Int) (a3 : Int) (R : Type) (k : IV A → List (IV A) → Option R) : abody (E_F28_ g7 g8 g30 g52 g53 g54 N) Tryz.f28 code_28 12 [0] [.asis] N [.box [.d (.sl 3 a1), .d (.int .i64 a2)], .d (.int .i64 a3)] k = SS_F28 (@F28_ g7 g8 g30 g52 g53 g54 N) [.box [.d (.sl 3 a1), .d (.int .i64 a2)], .d (.int .i64 a3)] k := by kernel_rfl
theorem t_F28 (N : Nat) (a1 : List (Int)) (a2 : Int) (a3 : Int) (R : Type) (k : IV A → List (IV A) → Option R) : abody (E_F28 N) Tryz.f28 code_28 12 [0] [.asis] N [.box [.d (.sl 3 a1), .d (.int .i64 a2)], .d (.int .i64 a3)] k = S_F28 N [.box [.d (.sl 3 a1), .d (.int .i64 a2)], .d (.int .i64 a3)] k := tg_F28 (@F7 N) (@F8 N) (@F30 N) (@F52 N) (@F53 N) (@F54 N) N a1 a2 a3 R k
theorem en_28 : Enters Tryz.prog 28 := enters_of (fn := Tryz.f28) (by kernel_rfl) (by kernel_rfl) (by kernel_rfl)
theorem en_F28 : Enters Tryz.prog 28 := en_28
theorem tl_F28 (N : Nat) : TabL Tryz.prog T (C_F28 N) := (.cons (fs_F7 N) en_F7 (.cons (fs_F8 N) en_F8 (.cons (fs_F30 N) en_F30 (.cons (fs_F52 N) en_F52 (.cons (fs_F53 N) en_F53 (.cons (fs_F54 N) en_F54 .nil))))))
theorem nl_F28 (N : Nat) : NatL (C_F28 N) := (.cons (na_F7 N) (.cons (na_F8 N) (.cons (na_F30 N) (.cons (na_F52 N) (.cons (na_F53 N) (.cons (na_F54 N) .nil))))))
theorem ct_F28 (N : Nat) : NatTab (E_F28 N).C := tab_nat (l := C_F28 N) (nl_F28 N)
theorem eo_F28 (N : Nat) : EnvOk (E_F28 N) := ⟨tyOk Tryz.prog, tab_sound (l := C_F28 N) (tl_F28 N), flatOk, keysOk⟩
theorem ll_F28 : loopsOf code_28 = [] := by kernel_rfl
theorem fi_F28 (N : Nat) : FineL (E_F28 N) N [] := .nil
theorem cc_F28 (N : Nat) : CutsOk (E_F28 N) N code_28 := cuts_of (fun _ => rfl) code_28 (by rw [ll_F28]; exact fi_F28 N)
theorem v_F28 (args : List (IV A)) : (∀ (N : Nat) (R : Type) (k : IV A → List (IV A) → Option R), S_F28 N args k = none) ∨ ∃ (a1 : List (Int)) (a2 : Int) (a3 : Int), args = [.box [.d (.sl 3 a1), .d (.int .i64 a2)], .d (.int .i64 a3)] := by
  by_cases h : ∃ (a1 : List (Int)) (a2 : Int) (a3 : Int), args = [.box [.d (.sl 3 a1), .d (.int .i64 a2)], .d (.int .i64 a3)]
  · exact .inr h
  · refine .inl (fun N R k => ?_)
    unfold S_F28 SS_F28
    split
    · exact absurd ⟨_, _, _, rfl⟩ h
    · rfl
theorem sm_F28 (N : Nat) : Same (S_F28 N) (abody (E_F28 N) Tryz.f28 code_28 12 [0] [.asis] N) := by
  intro args
  rcases v_F28 args with h | ⟨a1, a2, a3, rfl⟩
  · exact .inl (h N)
  · exact .inr (fun R k => (t_F28 N a1 a2 a3 R k).symm)
theorem fu_28 : Tryz.prog.funcs[28]? = some Tryz.f28 := by kernel_rfl
theorem bo_28 : Tryz.f28.body = some code_28 := by kernel_rfl
theorem fs_F28 (N : Nat) : FnSound Tryz.prog T 28 (S_F28 N) := fs_of (E_F28 N) rfl rfl (eo_F28 N) (ct_F28 N) mixed fu_28 bo_28 12 [0] [.asis] N (cc_F28 N) (sm_F28 N)
theorem na_F28 (N : Nat) : NatSpec (S_F28 N) := na_of (E_F28 N) (ct_F28 N) Tryz.f28 code_28 12 [0] [.asis] N (cc_F28 N) (sm_F28 N)
abbrev TF73 : Type 1 := Int → {R : Type} → (Int → Option R) → Option R
def F73_ (N : Nat) (a1 : Int) {R : Type} (k0 : Int → Option R) : Option R :=
  (bif (decide (a1 < 0)) then k0 (-1) else (bif (decide (a1 > 0)) then k0 1 else k0 0))
def F73 (N : Nat) : TF73 := @F73_ N
def p_F73 (args : List (IV A)) : Bool := match args with | [.d (.int .i64 _)] => true | _ => false
def SS_F73 (g : TF73) : Spec A := fun args _ k => match args with | [.d (.int .i64 a1)] => g a1 (fun z0 => k (.d (.int .i64 z0)) [.undef]) | _ => none
def S_F73 (N : Nat) : Spec A := SS_F73 (F73 N)
noncomputable def code_73 : Code := (Tryz.f73.body).getD .skip
def C_F73_ : List (Nat × Spec A) := []
def C_F73 (N : Nat) : List (Nat × Spec A) := C_F73_
noncomputable def E_F73_ (N : Nat) : Env A := { P := Tryz.prog, T := T, C := fun f => (C_F73_).lookup f, tg := fun d => ([].lookup d).getD [], seqH := fun _ => none, loopH := fun i => [].lookup i, exitH := fun i => [].lookup i, cutL := fun _ => none, mode := fun f i => [].contains (f, i), keyed := keyT, flat := flatT, pin := [] }
noncomputable def E_F73 (N : Nat) : Env A := E_F73_ N
theorem tg_F73 (N : Nat) (a1 : Int) (R : Type) (k : IV A → List (IV A) → Option R) : abody (E_F73_ N) Tryz.f73 code_73 0 [] [.asis] N [.d (.int .i64 a1)] k = SS_F73 (@F73_ N) [.d (.int .i64 a1)] k := by kernel_rfl
theorem t_F73 (N : Nat) (a1 : Int) (R : Type) (k : IV A → List (IV A) → Option R) : abody (E_F73 N) Tryz.f73 code_73 0 [] [.asis] N [.d (.int .i64 a1)] k = S_F73 N [.d (.int .i64 a1)] k := tg_F73 N a1 R k
theorem en_73 : Enters Tryz.prog 73 := enters_of (fn := Tryz.f73) (by kernel_rfl) (by kernel_rfl) (by kernel_rfl)
theorem en_F73 : Enters Tryz.prog 73 := en_73
theorem tl_F73 (N : Nat) : TabL Tryz.prog T (C_F73 N) := .nil
theorem nl_F73 (N : Nat) : NatL (C_F73 N) := .nil
theorem ct_F73 (N : Nat) : NatTab (E_F73 N).C := tab_nat (l := C_F73 N) (nl_F73 N)
theorem eo_F73 (N : Nat) : EnvOk (E_F73 N) := ⟨tyOk Tryz.prog, tab_sound (l := C_F73 N) (tl_F73 N), flatOk, keysOk⟩
theorem ll_F73 : loopsOf code_73 = [] := by kernel_rfl
theorem fi_F73 (N : Nat) : FineL (E_F73 N) N [] := .nil
theorem cc_F73 (N : Nat) : CutsOk (E_F73 N) N code_73 := cuts_of (fun _ => rfl) code_73 (by rw [ll_F73]; exact fi_F73 N)
theorem v_F73 (args : List (IV A)) : (∀ (N : Nat) (R : Type) (k : IV A → List (IV A) → Option R), S_F73 N args k = none) ∨ ∃ (a1 : Int), args = [.d (.int .i64 a1)] := by
  by_cases h : ∃ (a1 : Int), args = [.d (.int .i64 a1)]
  · exact .inr h
  · refine .inl (fun N R k => ?_)
    unfold S_F73 SS_F73
    split
    · exact absurd ⟨_, rfl⟩ h
    · rfl
theorem sm_F73 (N : Nat) : Same (S_F73 N) (abody (E_F73 N) Tryz.f73 code_73 0 [] [.asis] N) := by
  intro args
  rcases v_F73 args with h | ⟨a1, rfl⟩
  · exact .inl (h N)
  · exact .inr (fun R k => (t_F73 N a1 R k).symm)
theorem fu_73 : Tryz.prog.funcs[73]? = some Tryz.f73 := by kernel_rfl
theorem bo_73 : Tryz.f73.body = some code_73 := by kernel_rfl
theorem fs_F73 (N : Nat) : FnSound Tryz.prog T 73 (S_F73 N) := fs_of (E_F73 N) rfl rfl (eo_F73 N) (ct_F73 N) mixed fu_73 bo_73 0 [] [.asis] N (cc_F73 N) (sm_F73 N)
theorem na_F73 (N : Nat) : NatSpec (S_F73 N) := na_of (E_F73 N) (ct_F73 N) Tryz.f73 code_73 0 [] [.asis] N (cc_F73 N) (sm_F73 N)
abbrev TF74 : Type 1 := List UInt8 → List UInt8 → {R : Type} → (Int → Option R) → Option R
def F74 (N : Nat) : TF74 := @X_cmp
def SS_F74 (g : TF74) : Spec A := SSX_cmp g
def S_F74 (N : Nat) : Spec A := SS_F74 (F74 N)
def p_F74 (args : List (IV A)) : Bool := match args with | [.d (.str _), .d (.str _)] => true | _ => false
theorem na_F74 (N : Nat) : NatSpec (S_F74 N) := ssx_cmp_nat
theorem fs_F74 (N : Nat) : FnSound Tryz.prog T 74 (S_F74 N) := ssx_cmp_sound (cmp_sound (Any.strings_Compare Tryz.lays106))
theorem en_F74 : Enters Tryz.prog 74 := enters_of (fn := Tryz.f74) (by kernel_rfl) (by kernel_rfl) (by kernel_rfl)
abbrev TF39 : Type 1 := Int → Int → List UInt8 → List UInt8 → Int → Int → List UInt8 → List UInt8 → Int → Int → List UInt8 → List UInt8 → Int → Int → List UInt8 → List UInt8 → {R : Type} → (Int → Option R) → Option R
def F39_ (g73 : TF73) (g74 : TF74) (N : Nat) (a1 : Int) (a2 : Int) (a3 : List UInt8) (a4 : List UInt8) (a5 : Int) (a6 : Int) (a7 : List UInt8) (a8 : List UInt8) (a9 : Int) (a10 : Int) (a11 : List UInt8) (a12 : List UInt8) (a13 : Int) (a14 : Int) (a15 : List UInt8) (a16 : List UInt8) {R : Type} (k0 : Int → Option R) : Option R :=
  (bif (a1 != a9) then (g73 ((IntKind.i64.wrap (a1 - a9))) (fun r17 => k0 r17)) else (bif (!(a4 == a12)) then (g74 a4 a12 (fun r18 => k0 r18)) else (bif (!(a3 == a11)) then (g74 a3 a11 (fun r19 => k0 r19)) else (g73 ((IntKind.i64.wrap (a2 - a10))) (fun r20 => k0 r20)))))
def F39 (N : Nat) : TF39 := @F39_ (@F73 N) (@F74 N) N
def p_F39 (args : List (IV A)) : Bool := match args with | [.agg [.d (.int .i64 _), .d (.int .i64 _), .d (.str _), .d (.str _), .d (.int .i64 _), .d (.int .i64 _), .d (.str _), .d (.str _)], .agg [.d (.int .i64 _), .d (.int .i64 _), .d (.str _), .d (.str _), .d (.int .i64 _), .d (.int .i64 _), .d (.str _), .d (.str _)]] => true | _ => false
def SS_F39 (g : TF39) : Spec A := fun args _ k => match args with | [.agg [.d (.int .i64 a1), .d (.int .i64 a2), .d (.str a3), .d (.str a4), .d (.int .i64 a5), .d (.int .i64 a6), .d (.str a7), .d (.str a8)], .agg [.d (.int .i64 a9), .d (.int .i64 a10), .d (.str a11), .d (.str a12), .d (.int .i64 a13), .d (.int .i64 a14), .d (.str a15), .d (.str a16)]] => g a1 a2 a3 a4 a5 a6 a7 a8 a9 a10 a11 a12 a13 a14 a15 a16 (fun z0 => k (.d (.int .i64 z0)) [.undef, .undef]) | _ => none
def S_F39 (N : Nat) : Spec A := SS_F39 (F39 N)
noncomputable def code_39 : Code := (Tryz.f39.body).getD .skip
def C_F39_ (g73 : TF73) (g74 : TF74) : List (Nat × Spec A) := [(73, SS_F73 g73), (74, SS_F74 g74)]
def C_F39 (N : Nat) : List (Nat × Spec A) := C_F39_ (@F73 N) (@F74 N)
noncomputable def E_F39_ (g73 : TF73) (g74 : TF74) (N : Nat) : Env A := { P := Tryz.prog, T := T, C := fun f => (C_F39_ g73 g74).lookup f, tg := fun d => ([(2, [0]), (3, [1])].lookup d).getD [], seqH := fun _ => none, loopH := fun i => [].lookup i, exitH := fun i => [].lookup i, cutL := fun _ => none, mode := fun f i => [].contains (f, i), keyed := keyT, flat := flatT, pin := [] }
noncomputable def E_F39 (N : Nat) : Env A := E_F39_ (@F73 N) (@F74 N) N
theorem tg_F39 (g73 : TF73) (g74 : TF74) (N : Nat) (a1 : Int) (a2 : Int) (a3 : List UInt8) (a4 : List UInt8) (a5 : Int) (a6 : Int) (a7 : List UInt8) (a8 : List UInt8) (a9 : Int) (a10 : Int) (a11 : List UInt8) (a12 : List UInt8) (a13 : Int) (a14 : Int) (a15 : List UInt8) (a16 : List UInt8) (R : Type) (k : IV A → List (IV A) → Option R) : abody (E_F39_ g73 g74 N) Tryz.f39 code_39 2 [] [.asis] N [.agg [.d (.int .i64 a1), .d (.int .i64 a2), .d (.str a3), .d (.str a4), .d (.int .i64 a5), .d (.int .i64 a6), .d (.str a7), .d (.str a8)], .agg [.d (.int .i64 a9), .d (.int .i64 a10), .d (.str a11), .d (.str a12), .d (.int .i64 a13), .d (.int .i64 a14), .d (.str a15), .d (.str a16)]] k = SS_F39 (@F39_ g73 g74 N) [.agg [.d (.int .i64 a1), .d (.int .i64 a2), .d (.str a3), .d (.str a4), .d (.int .i64 a5), .d (.int .i64 a6), .d (.str a7), .d (.str a8)], .agg [.d (.int .i64 a9), .d (.int .i64 a10), .d (.str a11), .d (.str a12), .d (.int .i64 a13), .d (.int .i64 a14), .d (.str a15), .d (.str a16)]] k := by kernel_rfl
theorem t_F39 (N : Nat) (a1 : Int) (a2 : Int) (a3 : List UInt8) (a4 : List UInt8) (a5 : Int) (a6 : Int) (a7 : List UInt8) (a8 : List UInt8) (a9 : Int) (a10 : Int) (a11 : List UInt8) (a12 : List UInt8) (a13 : Int) (a14 : Int) (a15 : List UInt8) (a16 : List UInt8) (R : Type) (k : IV A → List (IV A) → Option R) : abody (E_F39 N) Tryz.f39 code_39 2 [] [.asis] N [.agg [.d (.int .i64 a1), .d (.int .i64 a2), .d (.str a3), .d (.str a4), .d (.int .i64 a5), .d (.int .i64 a6), .d (.str a7), .d (.str a8)], .agg [.d (.int .i64 a9), .d (.int .i64 a10), .d (.str a11), .d (.str a12), .d (.int .i64 a13), .d (.int .i64 a14), .d (.str a15), .d (.str a16)]] k = S_F39 N [.agg [.d (.int .i64 a1), .d (.int .i64 a2), .d (.str a3), .d (.str a4), .d (.int .i64 a5), .d (.int .i64 a6), .d (.str a7), .d (.str a8)], .agg [.d (.int .i64 a9), .d (.int .i64 a10), .d (.str a11), .d (.str a12), .d (.int .i64 a13), .d (.int .i64 a14), .d (.str a15), .d (.str a16)]] k := tg_F39 (@F73 N) (@F74 N) N a1 a2 a3 a4 a5 a6 a7 a8 a9 a10 a11 a12 a13 a14 a15 a16 R k
theorem en_39 : Enters Tryz.prog 39 := enters_of (fn := Tryz.f39) (by kernel_rfl) (by kernel_rfl) (by kernel_rfl)
theorem en_F39 : Enters Tryz.prog 39 := en_39
theorem tl_F39 (N : Nat) : TabL Tryz.prog T (C_F39 N) := (.cons (fs_F73 N) en_F73 (.cons (fs_F74 N) en_F74 .nil))
theorem nl_F39 (N : Nat) : NatL (C_F39 N) := (.cons (na_F73 N) (.cons (na_F74 N) .nil))
theorem ct_F39 (N : Nat) : NatTab (E_F39 N).C := tab_nat (l := C_F39 N) (nl_F39 N)
theorem eo_F39 (N : Nat) : EnvOk (E_F39 N) := ⟨tyOk Tryz.prog, tab_sound (l := C_F39 N) (tl_F39 N), flatOk, keysOk⟩
theorem ll_F39 : loopsOf code_39 = [] := by kernel_rfl
theorem fi_F39 (N : Nat) : FineL (E_F39 N) N [] := .nil
theorem cc_F39 (N : Nat) : CutsOk (E_F39 N) N code_39 := cuts_of (fun _ => rfl) code_39 (by rw [ll_F39]; exact fi_F39 N)
theorem v_F39 (args : List (IV A)) : (∀ (N : Nat) (R : Type) (k : IV A → List (IV A) → Option R), S_F39 N args k = none) ∨ ∃ (a1 : Int) (a2 : Int) (a3 : List UInt8) (a4 : List UInt8) (a5 : Int) (a6 : Int) (a7 : List UInt8) (a8 : List UInt8) (a9 : Int) (a10 : Int) (a11 : List UInt8) (a12 : List UInt8) (a13 : Int) (a14 : Int) (a15 : List UInt8) (a16 : List UInt8), args = [.agg [.d (.int .i64 a1), .d (.int .i64 a2), .d (.str a3), .d (.str a4), .d (.int .i64 a5), .d (.int .i64 a6), .d (.str a7), .d (.str a8)], .agg [.d (.int .i64 a9), .d (.int .i64 a10), .d (.str a11), .d (.str a12), .d (.int .i64 a13), .d (.int .i64 a14), .d (.str a15), .d (.str a16)]] := by
  by_cases h : ∃ (a1 : Int) (a2 : Int) (a3 : List UInt8) (a4 : List UInt8) (a5 : Int) (a6 : Int) (a7 : List UInt8) (a8 : List UInt8) (a9 : Int) (a10 : Int) (a11 : List UInt8) (a12 : List UInt8) (a13 : Int) (a14 : Int) (a15 : List UInt8) (a16 : List UInt8), args = [.agg [.d (.int .i64 a1), .d (.int .i64 a2), .d (.str a3), .d (.str a4), .d (.int .i64 a5), .d (.int .i64 a6), .d (.str a7), .d (.str a8)], .agg [.d (.int .i64 a9), .d (.int .i64 a10), .d (.str a11), .d (.str a12), .d (.int .i64 a13), .d (.int .i64 a14), .d (.str a15), .d (.str a16)]]
  · exact .inr h
  · refine .inl (fun N R k => ?_)
    unfold S_F39 SS_F39
    split
    · exact absurd ⟨_, _, _, _, _, _, _, _, _, _, _, _, _, _, _, _, rfl⟩ h
    · rfl
theorem sm_F39 (N : Nat) : Same (S_F39 N) (abody (E_F39 N) Tryz.f39 code_39 2 [] [.asis] N) := by
  intro args
  rcases v_F39 args with h | ⟨a1, a2, a3, a4, a5, a6, a7, a8, a9, a10, a11, a12, a13, a14, a15, a16, rfl⟩
  · exact .inl (h N)
  · exact .inr (fun R k => (t_F39 N a1 a2 a3 a4 a5 a6 a7 a8 a9 a10 a11 a12 a13 a14 a15 a16 R k).symm)
theorem fu_39 : Tryz.prog.funcs[39]? = some Tryz.f39 := by kernel_rfl
theorem bo_39 : Tryz.f39.body = some code_39 := by kernel_rfl
theorem fs_F39 (N : Nat) : FnSound Tryz.prog T 39 (S_F39 N) := fs_of (E_F39 N) rfl rfl (eo_F39 N) (ct_F39 N) mixed fu_39 bo_39 2 [] [.asis] N (cc_F39 N) (sm_F39 N)
theorem na_F39 (N : Nat) : NatSpec (S_F39 N) := na_of (E_F39 N) (ct_F39 N) Tryz.f39 code_39 2 [] [.asis] N (cc_F39 N) (sm_F39 N)
end Go.Am
