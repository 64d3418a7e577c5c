/- The functions of the program as Lean functions, each shown to be what the code computes, part 5. No condition: lemmas for the claim. -/
import Derived.Test.YthfphbbhjodbcaaGreatDoorF0
import Derived.Test.YthfphbbhjodbcaaGreatDoorFSh
import Derived.Test.YthfphbbhjodbcaaGreatDoorF3
import Derived.Test.YthfphbbhjodbcaaGreatDoorF4
set_option linter.unusedVariables false
set_option maxRecDepth 100000
namespace Go.Am
open Go Go.Proofs
abbrev TF103 : Type 1 := List UInt8 → {R : Type} → (List UInt8 → List UInt8 → List UInt8 → Int → List UInt8 → Bool → Option R) → Option R
def F103_ (g119 : TF119) (N : Nat) (a1 : List UInt8) {R : Type} (k0 : List UInt8 → List UInt8 → List UInt8 → Int → List UInt8 → Bool → Option R) : Option R :=
  (g119 a1 (fun r2 r3 => (bif (!r3) then k0 [] [] [] 0 [] false else (bif (decide (0 ≤ (IntKind.i64.wrap (r2 + 1))) && decide ((IntKind.i64.wrap (r2 + 1)) ≤ (a1.length : Int))) then (bif (decide (0 ≤ (IntKind.i64.wrap (r2 + 1))) && decide ((IntKind.i64.wrap (r2 + 1)) ≤ (a1.length : Int))) then k0 a1 ((a1.take ((IntKind.i64.wrap (r2 + 1)) : Int).toNat)) ((a1.drop ((IntKind.i64.wrap (r2 + 1)) : Int).toNat)) 0 [] true else none) else none))))
def F103 (N : Nat) : TF103 := @F103_ (@F119 N) N
def p_F103 (args : List (IV A)) : Bool := match args with | [.d (.str _)] => true | _ => false
def SS_F103 (g : TF103) : Spec A := fun args _ k => match args with | [.d (.str a1)] => g a1 (fun z0 z1 z2 z3 z4 z5 => k (.tup [.agg [.d (.str z0), .d (.str z1), .d (.str z2), .d (.int .i64 z3), .d (.str z4)], .d (.bool z5)]) [.undef]) | _ => none
def S_F103 (N : Nat) : Spec A := SS_F103 (F103 N)
noncomputable def code_103 : Code := (Tryz.f103.body).getD .skip
def C_F103_ (g119 : TF119) : List (Nat × Spec A) := [(119, SS_F119 g119)]
def C_F103 (N : Nat) : List (Nat × Spec A) := C_F103_ (@F119 N)
noncomputable def E_F103_ (g119 : TF119) (N : Nat) : Env A := { P := Tryz.prog, T := T, C := fun f => (C_F103_ g119).lookup f, tg := fun d => ([(2, [0])].lookup d).getD [], seqH := fun _ => none, loopH := fun i => [].lookup i, exitH := fun i => [].lookup i, cutL := fun _ => none, mode := fun f i => [].contains (f, i), keyed := keyT, flat := flatT, pin := [] }
noncomputable def E_F103 (N : Nat) : Env A := E_F103_ (@F119 N) N
theorem tg_F103 (g119 : TF119) (N : Nat) (a1 : List UInt8) (R : Type) (k : IV A → List (IV A) → Option R) : abody (E_F103_ g119 N) Tryz.f103 code_103 1 [] [.asis, .asis] N [.d (.str a1)] k = SS_F103 (@F103_ g119 N) [.d (.str a1)] k := by kernel_rfl
theorem t_F103 (N : Nat) (a1 : List UInt8) (R : Type) (k : IV A → List (IV A) → Option R) : abody (E_F103 N) Tryz.f103 code_103 1 [] [.asis, .asis] N [.d (.str a1)] k = S_F103 N [.d (.str a1)] k := tg_F103 (@F119 N) N a1 R k
theorem en_103 : Enters Tryz.prog 103 := enters_of (fn := Tryz.f103) (by kernel_rfl) (by kernel_rfl) (by kernel_rfl)
theorem en_F103 : Enters Tryz.prog 103 := en_103
theorem tl_F103 (N : Nat) : TabL Tryz.prog T (C_F103 N) := (.cons (fs_F119 N) en_F119 .nil)
theorem nl_F103 (N : Nat) : NatL (C_F103 N) := (.cons (na_F119 N) .nil)
theorem ct_F103 (N : Nat) : NatTab (E_F103 N).C := tab_nat (l := C_F103 N) (nl_F103 N)
theorem eo_F103 (N : Nat) : EnvOk (E_F103 N) := ⟨tyOk Tryz.prog, tab_sound (l := C_F103 N) (tl_F103 N), flatOk, keysOk⟩
theorem ll_F103 : loopsOf code_103 = [] := by kernel_rfl
theorem fi_F103 (N : Nat) : FineL (E_F103 N) N [] := .nil
theorem cc_F103 (N : Nat) : CutsOk (E_F103 N) N code_103 := cuts_of (fun _ => rfl) code_103 (by rw [ll_F103]; exact fi_F103 N)
theorem v_F103 (args : List (IV A)) : (∀ (N : Nat) (R : Type) (k : IV A → List (IV A) → Option R), S_F103 N args k = none) ∨ ∃ (a1 : List UInt8), args = [.d (.str a1)] := by
  by_cases h : ∃ (a1 : List UInt8), args = [.d (.str a1)]
  · exact .inr h
  · refine .inl (fun N R k => ?_)
    unfold S_F103 SS_F103
    split
    · exact absurd ⟨_, rfl⟩ h
    · rfl
theorem sm_F103 (N : Nat) : Same (S_F103 N) (abody (E_F103 N) Tryz.f103 code_103 1 [] [.asis, .asis] N) := by
  intro args
  rcases v_F103 args with h | ⟨a1, rfl⟩
  · exact .inl (h N)
  · exact .inr (fun R k => (t_F103 N a1 R k).symm)
theorem fu_103 : Tryz.prog.funcs[103]? = some Tryz.f103 := by kernel_rfl
theorem bo_103 : Tryz.f103.body = some code_103 := by kernel_rfl
theorem fs_F103 (N : Nat) : FnSound Tryz.prog T 103 (S_F103 N) := fs_of (E_F103 N) rfl rfl (eo_F103 N) (ct_F103 N) mixed fu_103 bo_103 1 [] [.asis, .asis] N (cc_F103 N) (sm_F103 N)
theorem na_F103 (N : Nat) : NatSpec (S_F103 N) := na_of (E_F103 N) (ct_F103 N) Tryz.f103 code_103 1 [] [.asis, .asis] N (cc_F103 N) (sm_F103 N)
abbrev TF123 : Type 1 := List UInt8 → List UInt8 → {R : Type} → (Int → Option R) → Option R
def F123 (N : Nat) : TF123 := @X_ix1
def SS_F123 (g : TF123) : Spec A := SSX_ix1 g
def S_F123 (N : Nat) : Spec A := SS_F123 (F123 N)
def p_F123 (args : List (IV A)) : Bool := match args with | [.d (.str _), .d (.str _)] => true | _ => false
theorem na_F123 (N : Nat) : NatSpec (S_F123 N) := ssx_ix1_nat
theorem fs_F123 (N : Nat) : FnSound Tryz.prog T 123 (S_F123 N) := ssx_ix1_sound (ix1_sound (Any.stringslite_Index_one Tryz.lays219))
theorem en_F123 : Enters Tryz.prog 123 := enters_of (fn := Tryz.f123) (by kernel_rfl) (by kernel_rfl) (by kernel_rfl)
abbrev TF108 : Type 1 := List UInt8 → List UInt8 → {R : Type} → (List UInt8 → List UInt8 → Bool → Option R) → Option R
def F108_ (g123 : TF123) (N : Nat) (a1 : List UInt8) (a2 : List UInt8) {R : Type} (k0 : List UInt8 → List UInt8 → Bool → Option R) : Option R :=
  (g123 a1 a2 (fun r3 => (bif (decide (r3 ≥ 0)) then (bif (decide (0 ≤ r3) && decide (r3 ≤ (a1.length : Int))) then (bif (decide (0 ≤ (IntKind.i64.wrap (r3 + (a2.length : Int)))) && decide ((IntKind.i64.wrap (r3 + (a2.length : Int))) ≤ (a1.length : Int))) then k0 ((a1.take (r3 : Int).toNat)) ((a1.drop ((IntKind.i64.wrap (r3 + (a2.length : Int))) : Int).toNat)) true else none) else none) else k0 a1 [] false)))
def F108 (N : Nat) : TF108 := @F108_ (@F123 N) N
def p_F108 (args : List (IV A)) : Bool := match args with | [.d (.str _), .d (.str _)] => true | _ => false
def SS_F108 (g : TF108) : Spec A := fun args _ k => match args with | [.d (.str a1), .d (.str a2)] => g a1 a2 (fun z0 z1 z2 => k (.tup [.d (.str z0), .d (.str z1), .d (.bool z2)]) [.undef, .undef]) | _ => none
def S_F108 (N : Nat) : Spec A := SS_F108 (F108 N)
noncomputable def code_108 : Code := (Tryz.f108.body).getD .skip
def C_F108_ (g123 : TF123) : List (Nat × Spec A) := [(123, SS_F123 g123)]
def C_F108 (N : Nat) : List (Nat × Spec A) := C_F108_ (@F123 N)
noncomputable def E_F108_ (g123 : TF123) (N : Nat) : Env A := { P := Tryz.prog, T := T, C := fun f => (C_F108_ g123).lookup f, tg := fun d => ([].lookup d).getD [], seqH := fun _ => none, loopH := fun i => [].lookup i, exitH := fun i => [].lookup i, cutL := fun _ => none, mode := fun f i => [].contains (f, i), keyed := keyT, flat := flatT, pin := [] }
noncomputable def E_F108 (N : Nat) : Env A := E_F108_ (@F123 N) N
theorem tg_F108 (g123 : TF123) (N : Nat) (a1 : List UInt8) (a2 : List UInt8) (R : Type) (k : IV A → List (IV A) → Option R) : abody (E_F108_ g123 N) Tryz.f108 code_108 0 [] [.asis, .asis, .asis] N [.d (.str a1), .d (.str a2)] k = SS_F108 (@F108_ g123 N) [.d (.str a1), .d (.str a2)] k := by kernel_rfl
theorem t_F108 (N : Nat) (a1 : List UInt8) (a2 : List UInt8) (R : Type) (k : IV A → List (IV A) → Option R) : abody (E_F108 N) Tryz.f108 code_108 0 [] [.asis, .asis, .asis] N [.d (.str a1), .d (.str a2)] k = S_F108 N [.d (.str a1), .d (.str a2)] k := tg_F108 (@F123 N) N a1 a2 R k
theorem en_108 : Enters Tryz.prog 108 := enters_of (fn := Tryz.f108) (by kernel_rfl) (by kernel_rfl) (by kernel_rfl)
theorem en_F108 : Enters Tryz.prog 108 := en_108
theorem tl_F108 (N : Nat) : TabL Tryz.prog T (C_F108 N) := (.cons (fs_F123 N) en_F123 .nil)
theorem nl_F108 (N : Nat) : NatL (C_F108 N) := (.cons (na_F123 N) .nil)
theorem ct_F108 (N : Nat) : NatTab (E_F108 N).C := tab_nat (l := C_F108 N) (nl_F108 N)
theorem eo_F108 (N : Nat) : EnvOk (E_F108 N) := ⟨tyOk Tryz.prog, tab_sound (l := C_F108 N) (tl_F108 N), flatOk, keysOk⟩
theorem ll_F108 : loopsOf code_108 = [] := by kernel_rfl
theorem fi_F108 (N : Nat) : FineL (E_F108 N) N [] := .nil
theorem cc_F108 (N : Nat) : CutsOk (E_F108 N) N code_108 := cuts_of (fun _ => rfl) code_108 (by rw [ll_F108]; exact fi_F108 N)
theorem v_F108 (args : List (IV A)) : (∀ (N : Nat) (R : Type) (k : IV A → List (IV A) → Option R), S_F108 N args k = none) ∨ ∃ (a1 : List UInt8) (a2 : List UInt8), args = [.d (.str a1), .d (.str a2)] := by
  by_cases h : ∃ (a1 : List UInt8) (a2 : List UInt8), args = [.d (.str a1), .d (.str a2)]
  · exact .inr h
  · refine .inl (fun N R k => ?_)
    unfold S_F108 SS_F108
    split
    · exact absurd ⟨_, _, rfl⟩ h
    · rfl
theorem sm_F108 (N : Nat) : Same (S_F108 N) (abody (E_F108 N) Tryz.f108 code_108 0 [] [.asis, .asis, .asis] N) := by
  intro args
  rcases v_F108 args with h | ⟨a1, a2, rfl⟩
  · exact .inl (h N)
  · exact .inr (fun R k => (t_F108 N a1 a2 R k).symm)
theorem fu_108 : Tryz.prog.funcs[108]? = some Tryz.f108 := by kernel_rfl
theorem bo_108 : Tryz.f108.body = some code_108 := by kernel_rfl
theorem fs_F108 (N : Nat) : FnSound Tryz.prog T 108 (S_F108 N) := fs_of (E_F108 N) rfl rfl (eo_F108 N) (ct_F108 N) mixed fu_108 bo_108 0 [] [.asis, .asis, .asis] N (cc_F108 N) (sm_F108 N)
theorem na_F108 (N : Nat) : NatSpec (S_F108 N) := na_of (E_F108 N) (ct_F108 N) Tryz.f108 code_108 0 [] [.asis, .asis, .asis] N (cc_F108 N) (sm_F108 N)
abbrev TF89 : Type 1 := List UInt8 → List UInt8 → {R : Type} → (List UInt8 → List UInt8 → Bool → Option R) → Option R
def F89_ (g108 : TF108) (N : Nat) (a1 : List UInt8) (a2 : List UInt8) {R : Type} (k0 : List UInt8 → List UInt8 → Bool → Option R) : Option R :=
  (g108 a1 a2 (fun r3 r4 r5 => k0 r3 r4 r5))
def F89 (N : Nat) : TF89 := @F89_ (@F108 N) N
def p_F89 (args : List (IV A)) : Bool := match args with | [.d (.str _), .d (.str _)] => true | _ => false
def SS_F89 (g : TF89) : Spec A := fun args _ k => match args with | [.d (.str a1), .d (.str a2)] => g a1 a2 (fun z0 z1 z2 => k (.tup [.d (.str z0), .d (.str z1), .d (.bool z2)]) [.undef, .undef]) | _ => none
def S_F89 (N : Nat) : Spec A := SS_F89 (F89 N)
noncomputable def code_89 : Code := (Tryz.f89.body).getD .skip
def C_F89_ (g108 : TF108) : List (Nat × Spec A) := [(108, SS_F108 g108)]
def C_F89 (N : Nat) : List (Nat × Spec A) := C_F89_ (@F108 N)
noncomputable def E_F89_ (g108 : TF108) (N : Nat) : Env A := { P := Tryz.prog, T := T, C := fun f => (C_F89_ g108).lookup f, tg := fun d => ([].lookup d).getD [], seqH := fun _ => none, loopH := fun i => [].lookup i, exitH := fun i => [].lookup i, cutL := fun _ => none, mode := fun f i => [].contains (f, i), keyed := keyT, flat := flatT, pin := [] }
noncomputable def E_F89 (N : Nat) : Env A := E_F89_ (@F108 N) N
theorem tg_F89 (g108 : TF108) (N : Nat) (a1 : List UInt8) (a2 : List UInt8) (R : Type) (k : IV A → List (IV A) → Option R) : abody (E_F89_ g108 N) Tryz.f89 code_89 0 [] [.asis, .asis, .asis] N [.d (.str a1), .d (.str a2)] k = SS_F89 (@F89_ g108 N) [.d (.str a1), .d (.str a2)] k := by kernel_rfl
theorem t_F89 (N : Nat) (a1 : List UInt8) (a2 : List UInt8) (R : Type) (k : IV A → List (IV A) → Option R) : abody (E_F89 N) Tryz.f89 code_89 0 [] [.asis, .asis, .asis] N [.d (.str a1), .d (.str a2)] k = S_F89 N [.d (.str a1), .d (.str a2)] k := tg_F89 (@F108 N) N a1 a2 R k
theorem en_89 : Enters Tryz.prog 89 := enters_of (fn := Tryz.f89) (by kernel_rfl) (by kernel_rfl) (by kernel_rfl)
theorem en_F89 : Enters Tryz.prog 89 := en_89
theorem tl_F89 (N : Nat) : TabL Tryz.prog T (C_F89 N) := (.cons (fs_F108 N) en_F108 .nil)
theorem nl_F89 (N : Nat) : NatL (C_F89 N) := (.cons (na_F108 N) .nil)
theorem ct_F89 (N : Nat) : NatTab (E_F89 N).C := tab_nat (l := C_F89 N) (nl_F89 N)
theorem eo_F89 (N : Nat) : EnvOk (E_F89 N) := ⟨tyOk Tryz.prog, tab_sound (l := C_F89 N) (tl_F89 N), flatOk, keysOk⟩
theorem ll_F89 : loopsOf code_89 = [] := by kernel_rfl
theorem fi_F89 (N : Nat) : FineL (E_F89 N) N [] := .nil
theorem cc_F89 (N : Nat) : CutsOk (E_F89 N) N code_89 := cuts_of (fun _ => rfl) code_89 (by rw [ll_F89]; exact fi_F89 N)
theorem v_F89 (args : List (IV A)) : (∀ (N : Nat) (R : Type) (k : IV A → List (IV A) → Option R), S_F89 N args k = none) ∨ ∃ (a1 : List UInt8) (a2 : List UInt8), args = [.d (.str a1), .d (.str a2)] := by
  by_cases h : ∃ (a1 : List UInt8) (a2 : List UInt8), args = [.d (.str a1), .d (.str a2)]
  · exact .inr h
  · refine .inl (fun N R k => ?_)
    unfold S_F89 SS_F89
    split
    · exact absurd ⟨_, _, rfl⟩ h
    · rfl
theorem sm_F89 (N : Nat) : Same (S_F89 N) (abody (E_F89 N) Tryz.f89 code_89 0 [] [.asis, .asis, .asis] N) := by
  intro args
  rcases v_F89 args with h | ⟨a1, a2, rfl⟩
  · exact .inl (h N)
  · exact .inr (fun R k => (t_F89 N a1 a2 R k).symm)
theorem fu_89 : Tryz.prog.funcs[89]? = some Tryz.f89 := by kernel_rfl
theorem bo_89 : Tryz.f89.body = some code_89 := by kernel_rfl
theorem fs_F89 (N : Nat) : FnSound Tryz.prog T 89 (S_F89 N) := fs_of (E_F89 N) rfl rfl (eo_F89 N) (ct_F89 N) mixed fu_89 bo_89 0 [] [.asis, .asis, .asis] N (cc_F89 N) (sm_F89 N)
theorem na_F89 (N : Nat) : NatSpec (S_F89 N) := na_of (E_F89 N) (ct_F89 N) Tryz.f89 code_89 0 [] [.asis, .asis, .asis] N (cc_F89 N) (sm_F89 N)
abbrev TF104 : Type 1 := List UInt8 → {R : Type} → (Bool → Option R) → Option R
def F104_ (g120 : TF120) (N : Nat) (a1 : List UInt8) {R : Type} (k0 : Bool → Option R) : Option R :=
  (g120 a1 (fun r2 r3 => (bif r3 then (bif (decide (r2 > 0)) then k0 ((decide ((a1.length : Int) ≤ 4))) else k0 false) else k0 false)))
def F104 (N : Nat) : TF104 := @F104_ (@F120 N) N
def p_F104 (args : List (IV A)) : Bool := match args with | [.d (.str _)] => true | _ => false
def SS_F104 (g : TF104) : Spec A := fun args _ k => match args with | [.d (.str a1)] => g a1 (fun z0 => k (.d (.bool z0)) [.undef]) | _ => none
def S_F104 (N : Nat) : Spec A := SS_F104 (F104 N)
noncomputable def code_104 : Code := (Tryz.f104.body).getD .skip
def C_F104_ (g120 : TF120) : List (Nat × Spec A) := [(120, SS_F120 g120)]
def C_F104 (N : Nat) : List (Nat × Spec A) := C_F104_ (@F120 N)
noncomputable def E_F104_ (g120 : TF120) (N : Nat) : Env A := { P := Tryz.prog, T := T, C := fun f => (C_F104_ g120).lookup f, tg := fun d => ([].lookup d).getD [], seqH := fun _ => none, loopH := fun i => [].lookup i, exitH := fun i => [].lookup i, cutL := fun _ => none, mode := fun f i => [].contains (f, i), keyed := keyT, flat := flatT, pin := [] }
noncomputable def E_F104 (N : Nat) : Env A := E_F104_ (@F120 N) N
theorem tg_F104 (g120 : TF120) (N : Nat) (a1 : List UInt8) (R : Type) (k : IV A → List (IV A) → Option R) : abody (E_F104_ g120 N) Tryz.f104 code_104 0 [] [.asis] N [.d (.str a1)] k = SS_F104 (@F104_ g120 N) [.d (.str a1)] k := by kernel_rfl
theorem t_F104 (N : Nat) (a1 : List UInt8) (R : Type) (k : IV A → List (IV A) → Option R) : abody (E_F104 N) Tryz.f104 code_104 0 [] [.asis] N [.d (.str a1)] k = S_F104 N [.d (.str a1)] k := tg_F104 (@F120 N) N a1 R k
theorem en_104 : Enters Tryz.prog 104 := enters_of (fn := Tryz.f104) (by kernel_rfl) (by kernel_rfl) (by kernel_rfl)
theorem en_F104 : Enters Tryz.prog 104 := en_104
theorem tl_F104 (N : Nat) : TabL Tryz.prog T (C_F104 N) := (.cons (fs_F120 N) en_F120 .nil)
theorem nl_F104 (N : Nat) : NatL (C_F104 N) := (.cons (na_F120 N) .nil)
theorem ct_F104 (N : Nat) : NatTab (E_F104 N).C := tab_nat (l := C_F104 N) (nl_F104 N)
theorem eo_F104 (N : Nat) : EnvOk (E_F104 N) := ⟨tyOk Tryz.prog, tab_sound (l := C_F104 N) (tl_F104 N), flatOk, keysOk⟩
theorem ll_F104 : loopsOf code_104 = [] := by kernel_rfl
theorem fi_F104 (N : Nat) : FineL (E_F104 N) N [] := .nil
theorem cc_F104 (N : Nat) : CutsOk (E_F104 N) N code_104 := cuts_of (fun _ => rfl) code_104 (by rw [ll_F104]; exact fi_F104 N)
theorem v_F104 (args : List (IV A)) : (∀ (N : Nat) (R : Type) (k : IV A → List (IV A) → Option R), S_F104 N args k = none) ∨ ∃ (a1 : List UInt8), args = [.d (.str a1)] := by
  by_cases h : ∃ (a1 : List UInt8), args = [.d (.str a1)]
  · exact .inr h
  · refine .inl (fun N R k => ?_)
    unfold S_F104 SS_F104
    split
    · exact absurd ⟨_, rfl⟩ h
    · rfl
theorem sm_F104 (N : Nat) : Same (S_F104 N) (abody (E_F104 N) Tryz.f104 code_104 0 [] [.asis] N) := by
  intro args
  rcases v_F104 args with h | ⟨a1, rfl⟩
  · exact .inl (h N)
  · exact .inr (fun R k => (t_F104 N a1 R k).symm)
theorem fu_104 : Tryz.prog.funcs[104]? = some Tryz.f104 := by kernel_rfl
theorem bo_104 : Tryz.f104.body = some code_104 := by kernel_rfl
theorem fs_F104 (N : Nat) : FnSound Tryz.prog T 104 (S_F104 N) := fs_of (E_F104 N) rfl rfl (eo_F104 N) (ct_F104 N) mixed fu_104 bo_104 0 [] [.asis] N (cc_F104 N) (sm_F104 N)
theorem na_F104 (N : Nat) : NatSpec (S_F104 N) := na_of (E_F104 N) (ct_F104 N) Tryz.f104 code_104 0 [] [.asis] N (cc_F104 N) (sm_F104 N)
abbrev TF105 : Type 1 := List UInt8 → {R : Type} → (Int → List UInt8 → Bool → Option R) → Option R
def F105_ (g104 : TF104) (g121 : TF121) (N : Nat) (a1 : List UInt8) {R : Type} (k0 : Int → List UInt8 → Bool → Option R) : Option R :=
  (bif (a1 == [112]) then k0 3 [] true else (bif (a1 == [109]) then k0 4 [] true else (bif (a1 == [109, 109]) then k0 5 [] true else (bif (a1 == [97, 109]) then k0 6 [] true else (bif ((a1.length : Int) == 1) then (match a1[(0 : Int).toNat]? with | some x2 => (g121 (x2.toNat : Int) (fun r3 => (bif r3 then k0 2 a1 true else (g104 a1 (fun r4 => k0 1 a1 r4))))) | none => none) else (g104 a1 (fun r5 => k0 1 a1 r5)))))))
def F105 (N : Nat) : TF105 := @F105_ (@F104 N) (@F121 N) N
def p_F105 (args : List (IV A)) : Bool := match args with | [.d (.str _)] => true | _ => false
def SS_F105 (g : TF105) : Spec A := fun args _ k => match args with | [.d (.str a1)] => g a1 (fun z0 z1 z2 => k (.tup [.d (.int .i64 z0), .d (.str z1), .d (.bool z2)]) [.undef]) | _ => none
def S_F105 (N : Nat) : Spec A := SS_F105 (F105 N)
noncomputable def code_105 : Code := (Tryz.f105.body).getD .skip
def C_F105_ (g104 : TF104) (g121 : TF121) : List (Nat × Spec A) := [(104, SS_F104 g104), (121, SS_F121 g121)]
def C_F105 (N : Nat) : List (Nat × Spec A) := C_F105_ (@F104 N) (@F121 N)
noncomputable def E_F105_ (g104 : TF104) (g121 : TF121) (N : Nat) : Env A := { P := Tryz.prog, T := T, C := fun f => (C_F105_ g104 g121).lookup f, tg := fun d => ([].lookup d).getD [], seqH := fun _ => none, loopH := fun i => [].lookup i, exitH := fun i => [].lookup i, cutL := fun _ => none, mode := fun f i => [].contains (f, i), keyed := keyT, flat := flatT, pin := [] }
noncomputable def E_F105 (N : Nat) : Env A := E_F105_ (@F104 N) (@F121 N) N
theorem tg_F105 (g104 : TF104) (g121 : TF121) (N : Nat) (a1 : List UInt8) (R : Type) (k : IV A → List (IV A) → Option R) : abody (E_F105_ g104 g121 N) Tryz.f105 code_105 0 [] [.asis, .asis, .asis] N [.d (.str a1)] k = SS_F105 (@F105_ g104 g121 N) [.d (.str a1)] k := by kernel_rfl
theorem t_F105 (N : Nat) (a1 : List UInt8) (R : Type) (k : IV A → List (IV A) → Option R) : abody (E_F105 N) Tryz.f105 code_105 0 [] [.asis, .asis, .asis] N [.d (.str a1)] k = S_F105 N [.d (.str a1)] k := tg_F105 (@F104 N) (@F121 N) N a1 R k
theorem en_105 : Enters Tryz.prog 105 := enters_of (fn := Tryz.f105) (by kernel_rfl) (by kernel_rfl) (by kernel_rfl)
theorem en_F105 : Enters Tryz.prog 105 := en_105
theorem tl_F105 (N : Nat) : TabL Tryz.prog T (C_F105 N) := (.cons (fs_F104 N) en_F104 (.cons (fs_F121 N) en_F121 .nil))
theorem nl_F105 (N : Nat) : NatL (C_F105 N) := (.cons (na_F104 N) (.cons (na_F121 N) .nil))
theorem ct_F105 (N : Nat) : NatTab (E_F105 N).C := tab_nat (l := C_F105 N) (nl_F105 N)
theorem eo_F105 (N : Nat) : EnvOk (E_F105 N) := ⟨tyOk Tryz.prog, tab_sound (l := C_F105 N) (tl_F105 N), flatOk, keysOk⟩
theorem ll_F105 : loopsOf code_105 = [] := by kernel_rfl
theorem fi_F105 (N : Nat) : FineL (E_F105 N) N [] := .nil
theorem cc_F105 (N : Nat) : CutsOk (E_F105 N) N code_105 := cuts_of (fun _ => rfl) code_105 (by rw [ll_F105]; exact fi_F105 N)
theorem v_F105 (args : List (IV A)) : (∀ (N : Nat) (R : Type) (k : IV A → List (IV A) → Option R), S_F105 N args k = none) ∨ ∃ (a1 : List UInt8), args = [.d (.str a1)] := by
  by_cases h : ∃ (a1 : List UInt8), args = [.d (.str a1)]
  · exact .inr h
  · refine .inl (fun N R k => ?_)
    unfold S_F105 SS_F105
    split
    · exact absurd ⟨_, rfl⟩ h
    · rfl
theorem sm_F105 (N : Nat) : Same (S_F105 N) (abody (E_F105 N) Tryz.f105 code_105 0 [] [.asis, .asis, .asis] N) := by
  intro args
  rcases v_F105 args with h | ⟨a1, rfl⟩
  · exact .inl (h N)
  · exact .inr (fun R k => (t_F105 N a1 R k).symm)
theorem fu_105 : Tryz.prog.funcs[105]? = some Tryz.f105 := by kernel_rfl
theorem bo_105 : Tryz.f105.body = some code_105 := by kernel_rfl
theorem fs_F105 (N : Nat) : FnSound Tryz.prog T 105 (S_F105 N) := fs_of (E_F105 N) rfl rfl (eo_F105 N) (ct_F105 N) mixed fu_105 bo_105 0 [] [.asis, .asis, .asis] N (cc_F105 N) (sm_F105 N)
theorem na_F105 (N : Nat) : NatSpec (S_F105 N) := na_of (E_F105 N) (ct_F105 N) Tryz.f105 code_105 0 [] [.asis, .asis, .asis] N (cc_F105 N) (sm_F105 N)
abbrev TF84 : Type 1 := List UInt8 → {R : Type} → (List UInt8 → List UInt8 → List UInt8 → Int → List UInt8 → Bool → Option R) → Option R
def F84_ (g89 : TF89) (g103 : TF103) (g104 : TF104) (g105 : TF105) (N : Nat) (a1 : List UInt8) {R : Type} (k0 : List UInt8 → List UInt8 → List UInt8 → Int → List UInt8 → Bool → Option R) : Option R :=
  (bif (decide ((a1.length : Int) > 14)) then k0 [] [] [] 0 [] false else (g103 a1 (fun r2 r3 r4 r5 r6 r7 => (bif r7 then k0 r2 r3 r4 r5 r6 true else (g89 a1 [47] (fun r8 r9 r10 => (bif (!r10) then k0 [] [] [] 0 [] false else (g103 r9 (fun r11 r12 r13 r14 r15 r16 => (bif r16 then (g104 r8 (fun r17 => (bif r17 then k0 r11 r12 r13 1 r8 true else (g103 r8 (fun r18 r19 r20 r21 r22 r23 => (g105 r9 (fun r24 r25 r26 => (bif (!r23) then k0 [] [] [] 0 [] false else (bif (!r26) then k0 [] [] [] 0 [] false else k0 r18 r19 r20 r24 r25 true))))))))) else (g103 r8 (fun r27 r28 r29 r30 r31 r32 => (g105 r9 (fun r33 r34 r35 => (bif (!r32) then k0 [] [] [] 0 [] false else (bif (!r35) then k0 [] [] [] 0 [] false else k0 r27 r28 r29 r33 r34 true))))))))))))))))
def F84 (N : Nat) : TF84 := @F84_ (@F89 N) (@F103 N) (@F104 N) (@F105 N) N
def p_F84 (args : List (IV A)) : Bool := match args with | [.d (.str _)] => true | _ => false
def SS_F84 (g : TF84) : Spec A := fun args _ k => match args with | [.d (.str a1)] => g a1 (fun z0 z1 z2 z3 z4 z5 => k (.tup [.agg [.d (.str z0), .d (.str z1), .d (.str z2), .d (.int .i64 z3), .d (.str z4)], .d (.bool z5)]) [.undef]) | _ => none
def S_F84 (N : Nat) : Spec A := SS_F84 (F84 N)
noncomputable def code_84 : Code := (Tryz.f84.body).getD .skip
def C_F84_ (g89 : TF89) (g103 : TF103) (g104 : TF104) (g105 : TF105) : List (Nat × Spec A) := [(89, SS_F89 g89), (103, SS_F103 g103), (104, SS_F104 g104), (105, SS_F105 g105)]
def C_F84 (N : Nat) : List (Nat × Spec A) := C_F84_ (@F89 N) (@F103 N) (@F104 N) (@F105 N)
noncomputable def E_F84_ (g89 : TF89) (g103 : TF103) (g104 : TF104) (g105 : TF105) (N : Nat) : Env A := { P := Tryz.prog, T := T, C := fun f => (C_F84_ g89 g103 g104 g105).lookup f, tg := fun d => ([(2, [0]), (4, [1]), (9, [2]), (11, [3])].lookup d).getD [], seqH := fun _ => none, loopH := fun i => [].lookup i, exitH := fun i => [].lookup i, cutL := fun _ => none, mode := fun f i => [].contains (f, i), keyed := keyT, flat := flatT, pin := [] }
noncomputable def E_F84 (N : Nat) : Env A := E_F84_ (@F89 N) (@F103 N) (@F104 N) (@F105 N) N
theorem tg_F84 (g89 : TF89) (g103 : TF103) (g104 : TF104) (g105 : TF105) (N : Nat) (a1 : List UInt8) (R : Type) (k : IV A → List (IV A) → Option R) : abody (E_F84_ g89 g103 g104 g105 N) Tryz.f84 code_84 4 [] [.asis, .asis] N [.d (.str a1)] k = SS_F84 (@F84_ g89 g103 g104 g105 N) [.d (.str a1)] k := by kernel_rfl
theorem t_F84 (N : Nat) (a1 : List UInt8) (R : Type) (k : IV A → List (IV A) → Option R) : abody (E_F84 N) Tryz.f84 code_84 4 [] [.asis, .asis] N [.d (.str a1)] k = S_F84 N [.d (.str a1)] k := tg_F84 (@F89 N) (@F103 N) (@F104 N) (@F105 N) N a1 R k
theorem en_84 : Enters Tryz.prog 84 := enters_of (fn := Tryz.f84) (by kernel_rfl) (by kernel_rfl) (by kernel_rfl)
theorem en_F84 : Enters Tryz.prog 84 := en_84
theorem tl_F84 (N : Nat) : TabL Tryz.prog T (C_F84 N) := (.cons (fs_F89 N) en_F89 (.cons (fs_F103 N) en_F103 (.cons (fs_F104 N) en_F104 (.cons (fs_F105 N) en_F105 .nil))))
theorem nl_F84 (N : Nat) : NatL (C_F84 N) := (.cons (na_F89 N) (.cons (na_F103 N) (.cons (na_F104 N) (.cons (na_F105 N) .nil))))
theorem ct_F84 (N : Nat) : NatTab (E_F84 N).C := tab_nat (l := C_F84 N) (nl_F84 N)
theorem eo_F84 (N : Nat) : EnvOk (E_F84 N) := ⟨tyOk Tryz.prog, tab_sound (l := C_F84 N) (tl_F84 N), flatOk, keysOk⟩
theorem ll_F84 : loopsOf code_84 = [] := by kernel_rfl
theorem fi_F84 (N : Nat) : FineL (E_F84 N) N [] := .nil
theorem cc_F84 (N : Nat) : CutsOk (E_F84 N) N code_84 := cuts_of (fun _ => rfl) code_84 (by rw [ll_F84]; exact fi_F84 N)
theorem v_F84 (args : List (IV A)) : (∀ (N : Nat) (R : Type) (k : IV A → List (IV A) → Option R), S_F84 N args k = none) ∨ ∃ (a1 : List UInt8), args = [.d (.str a1)] := by
  by_cases h : ∃ (a1 : List UInt8), args = [.d (.str a1)]
  · exact .inr h
  · refine .inl (fun N R k => ?_)
    unfold S_F84 SS_F84
    split
    · exact absurd ⟨_, rfl⟩ h
    · rfl
theorem sm_F84 (N : Nat) : Same (S_F84 N) (abody (E_F84 N) Tryz.f84 code_84 4 [] [.asis, .asis] N) := by
  intro args
  rcases v_F84 args with h | ⟨a1, rfl⟩
  · exact .inl (h N)
  · exact .inr (fun R k => (t_F84 N a1 R k).symm)
theorem fu_84 : Tryz.prog.funcs[84]? = some Tryz.f84 := by kernel_rfl
theorem bo_84 : Tryz.f84.body = some code_84 := by kernel_rfl
theorem fs_F84 (N : Nat) : FnSound Tryz.prog T 84 (S_F84 N) := fs_of (E_F84 N) rfl rfl (eo_F84 N) (ct_F84 N) mixed fu_84 bo_84 4 [] [.asis, .asis] N (cc_F84 N) (sm_F84 N)
theorem na_F84 (N : Nat) : NatSpec (S_F84 N) := na_of (E_F84 N) (ct_F84 N) Tryz.f84 code_84 4 [] [.asis, .asis] N (cc_F84 N) (sm_F84 N)
abbrev TF67 : Type 1 := List UInt8 → {R : Type} → (Bool → Option R) → Option R
def F67_ (g84 : TF84) (N : Nat) (a1 : List UInt8) {R : Type} (k0 : Bool → Option R) : Option R :=
  (g84 a1 (fun r2 r3 r4 r5 r6 r7 => k0 r7))
def F67 (N : Nat) : TF67 := @F67_ (@F84 N) N
def p_F67 (args : List (IV A)) : Bool := match args with | [.d (.str _)] => true | _ => false
def SS_F67 (g : TF67) : Spec A := fun args _ k => match args with | [.d (.str a1)] => g a1 (fun z0 => k (.d (.bool z0)) [.undef]) | _ => none
def S_F67 (N : Nat) : Spec A := SS_F67 (F67 N)
noncomputable def code_67 : Code := (Tryz.f67.body).getD .skip
def C_F67_ (g84 : TF84) : List (Nat × Spec A) := [(84, SS_F84 g84)]
def C_F67 (N : Nat) : List (Nat × Spec A) := C_F67_ (@F84 N)
noncomputable def E_F67_ (g84 : TF84) (N : Nat) : Env A := { P := Tryz.prog, T := T, C := fun f => (C_F67_ g84).lookup f, tg := fun d => ([(3, [0])].lookup d).getD [], seqH := fun _ => none, loopH := fun i => [].lookup i, exitH := fun i => [].lookup i, cutL := fun _ => none, mode := fun f i => [].contains (f, i), keyed := keyT, flat := flatT, pin := [] }
noncomputable def E_F67 (N : Nat) : Env A := E_F67_ (@F84 N) N
theorem tg_F67 (g84 : TF84) (N : Nat) (a1 : List UInt8) (R : Type) (k : IV A → List (IV A) → Option R) : abody (E_F67_ g84 N) Tryz.f67 code_67 1 [] [.asis] N [.d (.str a1)] k = SS_F67 (@F67_ g84 N) [.d (.str a1)] k := by kernel_rfl
theorem t_F67 (N : Nat) (a1 : List UInt8) (R : Type) (k : IV A → List (IV A) → Option R) : abody (E_F67 N) Tryz.f67 code_67 1 [] [.asis] N [.d (.str a1)] k = S_F67 N [.d (.str a1)] k := tg_F67 (@F84 N) N a1 R k
theorem en_67 : Enters Tryz.prog 67 := enters_of (fn := Tryz.f67) (by kernel_rfl) (by kernel_rfl) (by kernel_rfl)
theorem en_F67 : Enters Tryz.prog 67 := en_67
theorem tl_F67 (N : Nat) : TabL Tryz.prog T (C_F67 N) := (.cons (fs_F84 N) en_F84 .nil)
theorem nl_F67 (N : Nat) : NatL (C_F67 N) := (.cons (na_F84 N) .nil)
theorem ct_F67 (N : Nat) : NatTab (E_F67 N).C := tab_nat (l := C_F67 N) (nl_F67 N)
theorem eo_F67 (N : Nat) : EnvOk (E_F67 N) := ⟨tyOk Tryz.prog, tab_sound (l := C_F67 N) (tl_F67 N), flatOk, keysOk⟩
theorem ll_F67 : loopsOf code_67 = [] := by kernel_rfl
theorem fi_F67 (N : Nat) : FineL (E_F67 N) N [] := .nil
theorem cc_F67 (N : Nat) : CutsOk (E_F67 N) N code_67 := cuts_of (fun _ => rfl) code_67 (by rw [ll_F67]; exact fi_F67 N)
theorem v_F67 (args : List (IV A)) : (∀ (N : Nat) (R : Type) (k : IV A → List (IV A) → Option R), S_F67 N args k = none) ∨ ∃ (a1 : List UInt8), args = [.d (.str a1)] := by
  by_cases h : ∃ (a1 : List UInt8), args = [.d (.str a1)]
  · exact .inr h
  · refine .inl (fun N R k => ?_)
    unfold S_F67 SS_F67
    split
    · exact absurd ⟨_, rfl⟩ h
    · rfl
theorem sm_F67 (N : Nat) : Same (S_F67 N) (abody (E_F67 N) Tryz.f67 code_67 1 [] [.asis] N) := by
  intro args
  rcases v_F67 args with h | ⟨a1, rfl⟩
  · exact .inl (h N)
  · exact .inr (fun R k => (t_F67 N a1 R k).symm)
theorem fu_67 : Tryz.prog.funcs[67]? = some Tryz.f67 := by kernel_rfl
theorem bo_67 : Tryz.f67.body = some code_67 := by kernel_rfl
theorem fs_F67 (N : Nat) : FnSound Tryz.prog T 67 (S_F67 N) := fs_of (E_F67 N) rfl rfl (eo_F67 N) (ct_F67 N) mixed fu_67 bo_67 1 [] [.asis] N (cc_F67 N) (sm_F67 N)
theorem na_F67 (N : Nat) : NatSpec (S_F67 N) := na_of (E_F67 N) (ct_F67 N) Tryz.f67 code_67 1 [] [.asis] N (cc_F67 N) (sm_F67 N)
abbrev TF68 : Type 1 := List UInt8 → {R : Type} → (Bool → Option R) → Option R
def F68_ (g66 : TF66) (N : Nat) (a1 : List UInt8) {R : Type} (k0 : Bool → Option R) : Option R :=
  (bif (a1 == []) then k0 true else (g66 a1 (fun r2 => k0 r2)))
def F68 (N : Nat) : TF68 := @F68_ (@F66 N) N
def p_F68 (args : List (IV A)) : Bool := match args with | [.d (.str _)] => true | _ => false
def SS_F68 (g : TF68) : Spec A := fun args _ k => match args with | [.d (.str a1)] => g a1 (fun z0 => k (.d (.bool z0)) [.undef]) | _ => none
def S_F68 (N : Nat) : Spec A := SS_F68 (F68 N)
noncomputable def code_68 : Code := (Tryz.f68.body).getD .skip
def C_F68_ (g66 : TF66) : List (Nat × Spec A) := [(66, SS_F66 g66)]
def C_F68 (N : Nat) : List (Nat × Spec A) := C_F68_ (@F66 N)
noncomputable def E_F68_ (g66 : TF66) (N : Nat) : Env A := { P := Tryz.prog, T := T, C := fun f => (C_F68_ g66).lookup f, tg := fun d => ([].lookup d).getD [], seqH := fun _ => none, loopH := fun i => [].lookup i, exitH := fun i => [].lookup i, cutL := fun _ => none, mode := fun f i => [].contains (f, i), keyed := keyT, flat := flatT, pin := [] }
noncomputable def E_F68 (N : Nat) : Env A := E_F68_ (@F66 N) N
theorem tg_F68 (g66 : TF66) (N : Nat) (a1 : List UInt8) (R : Type) (k : IV A → List (IV A) → Option R) : abody (E_F68_ g66 N) Tryz.f68 code_68 0 [] [.asis] N [.d (.str a1)] k = SS_F68 (@F68_ g66 N) [.d (.str a1)] k := by kernel_rfl
theorem t_F68 (N : Nat) (a1 : List UInt8) (R : Type) (k : IV A → List (IV A) → Option R) : abody (E_F68 N) Tryz.f68 code_68 0 [] [.asis] N [.d (.str a1)] k = S_F68 N [.d (.str a1)] k := tg_F68 (@F66 N) N a1 R k
theorem en_68 : Enters Tryz.prog 68 := enters_of (fn := Tryz.f68) (by kernel_rfl) (by kernel_rfl) (by kernel_rfl)
theorem en_F68 : Enters Tryz.prog 68 := en_68
theorem tl_F68 (N : Nat) : TabL Tryz.prog T (C_F68 N) := (.cons (fs_F66 N) en_F66 .nil)
theorem nl_F68 (N : Nat) : NatL (C_F68 N) := (.cons (na_F66 N) .nil)
theorem ct_F68 (N : Nat) : NatTab (E_F68 N).C := tab_nat (l := C_F68 N) (nl_F68 N)
theorem eo_F68 (N : Nat) : EnvOk (E_F68 N) := ⟨tyOk Tryz.prog, tab_sound (l := C_F68 N) (tl_F68 N), flatOk, keysOk⟩
theorem ll_F68 : loopsOf code_68 = [] := by kernel_rfl
theorem fi_F68 (N : Nat) : FineL (E_F68 N) N [] := .nil
theorem cc_F68 (N : Nat) : CutsOk (E_F68 N) N code_68 := cuts_of (fun _ => rfl) code_68 (by rw [ll_F68]; exact fi_F68 N)
theorem v_F68 (args : List (IV A)) : (∀ (N : Nat) (R : Type) (k : IV A → List (IV A) → Option R), S_F68 N args k = none) ∨ ∃ (a1 : List UInt8), args = [.d (.str a1)] := by
  by_cases h : ∃ (a1 : List UInt8), args = [.d (.str a1)]
  · exact .inr h
  · refine .inl (fun N R k => ?_)
    unfold S_F68 SS_F68
    split
    · exact absurd ⟨_, rfl⟩ h
    · rfl
theorem sm_F68 (N : Nat) : Same (S_F68 N) (abody (E_F68 N) Tryz.f68 code_68 0 [] [.asis] N) := by
  intro args
  rcases v_F68 args with h | ⟨a1, rfl⟩
  · exact .inl (h N)
  · exact .inr (fun R k => (t_F68 N a1 R k).symm)
theorem fu_68 : Tryz.prog.funcs[68]? = some Tryz.f68 := by kernel_rfl
theorem bo_68 : Tryz.f68.body = some code_68 := by kernel_rfl
theorem fs_F68 (N : Nat) : FnSound Tryz.prog T 68 (S_F68 N) := fs_of (E_F68 N) rfl rfl (eo_F68 N) (ct_F68 N) mixed fu_68 bo_68 0 [] [.asis] N (cc_F68 N) (sm_F68 N)
theorem na_F68 (N : Nat) : NatSpec (S_F68 N) := na_of (E_F68 N) (ct_F68 N) Tryz.f68 code_68 0 [] [.asis] N (cc_F68 N) (sm_F68 N)
abbrev TF35 : Type 1 := Int → Int → List UInt8 → List UInt8 → Int → Int → List UInt8 → List UInt8 → {R : Type} → (Int → Option R) → Option R
def F35_ (g42 : TF42) (g64 : TF64) (g65 : TF65) (g66 : TF66) (g67 : TF67) (g68 : TF68) (N : Nat) (a1 : Int) (a2 : Int) (a3 : List UInt8) (a4 : List UInt8) (a5 : Int) (a6 : Int) (a7 : List UInt8) (a8 : List UInt8) {R : Type} (k0 : Int → Option R) : Option R :=
  (g64 a1 (fun r9 => (bif (!r9) then k0 1 else (g65 a2 (fun r10 => (bif (!r10) then k0 4 else (g66 a3 (fun r11 => (bif (!r11) then k0 5 else (g67 a4 (fun r12 => (bif (!r12) then k0 3 else (g42 a5 0 99999 (fun r13 => (bif r13 then k0 1 else (g42 a6 0 99999 (fun r14 => (bif r14 then k0 1 else (g68 a7 (fun r15 => (bif (!r15) then k0 5 else (g68 a8 (fun r16 => (bif (!r16) then k0 5 else k0 0))))))))))))))))))))))))
def F35 (N : Nat) : TF35 := @F35_ (@F42 N) (@F64 N) (@F65 N) (@F66 N) (@F67 N) (@F68 N) N
def p_F35 (args : List (IV A)) : Bool := match args with | [.agg [.d (.int .i64 _), .d (.int .i64 _), .d (.str _), .d (.str _), .d (.int .i64 _), .d (.int .i64 _), .d (.str _), .d (.str _)]] => true | _ => false
def SS_F35 (g : TF35) : Spec A := fun args _ k => match args with | [.agg [.d (.int .i64 a1), .d (.int .i64 a2), .d (.str a3), .d (.str a4), .d (.int .i64 a5), .d (.int .i64 a6), .d (.str a7), .d (.str a8)]] => g a1 a2 a3 a4 a5 a6 a7 a8 (fun z0 => k (.d (.int .i64 z0)) [.undef]) | _ => none
def S_F35 (N : Nat) : Spec A := SS_F35 (F35 N)
noncomputable def code_35 : Code := (Tryz.f35.body).getD .skip
def C_F35_ (g42 : TF42) (g64 : TF64) (g65 : TF65) (g66 : TF66) (g67 : TF67) (g68 : TF68) : List (Nat × Spec A) := [(42, SS_F42 g42), (64, SS_F64 g64), (65, SS_F65 g65), (66, SS_F66 g66), (67, SS_F67 g67), (68, SS_F68 g68)]
def C_F35 (N : Nat) : List (Nat × Spec A) := C_F35_ (@F42 N) (@F64 N) (@F65 N) (@F66 N) (@F67 N) (@F68 N)
noncomputable def E_F35_ (g42 : TF42) (g64 : TF64) (g65 : TF65) (g66 : TF66) (g67 : TF67) (g68 : TF68) (N : Nat) : Env A := { P := Tryz.prog, T := T, C := fun f => (C_F35_ g42 g64 g65 g66 g67 g68).lookup f, tg := fun d => ([(1, [0])].lookup d).getD [], seqH := fun _ => none, loopH := fun i => [].lookup i, exitH := fun i => [].lookup i, cutL := fun _ => none, mode := fun f i => [].contains (f, i), keyed := keyT, flat := flatT, pin := [] }
noncomputable def E_F35 (N : Nat) : Env A := E_F35_ (@F42 N) (@F64 N) (@F65 N) (@F66 N) (@F67 N) (@F68 N) N
theorem tg_F35 (g42 : TF42) (g64 : TF64) (g65 : TF65) (g66 : TF66) (g67 : TF67) (g68 : TF68) (N : Nat) (a1 : Int) (a2 : Int) (a3 : List UInt8) (a4 : List UInt8) (a5 : Int) (a6 : Int) (a7 : List UInt8) (a8 : List UInt8) (R : Type) (k : IV A → List (IV A) → Option R) : abody (E_F35_ g42 g64 g65 g66 g67 g68 N) Tryz.f35 code_35 1 [] [.asis] N [.agg [.d (.int .i64 a1), .d (.int .i64 a2), .d (.str a3), .d (.str a4), .d (.int .i64 a5), .d (.int .i64 a6), .d (.str a7), .d (.str a8)]] k = SS_F35 (@F35_ g42 g64 g65 g66 g67 g68 N) [.agg [.d (.int .i64 a1), .d (.int .i64 a2), .d (.str a3), .d (.str a4), .d (.int .i64 a5), .d (.int .i64 a6), .d (.str a7), .d (.str a8)]] k := by kernel_rfl
theorem t_F35 (N : Nat) (a1 : Int) (a2 : Int) (a3 : List UInt8) (a4 : List UInt8) (a5 : Int) (a6 : Int) (a7 : List UInt8) (a8 : List UInt8) (R : Type) (k : IV A → List (IV A) → Option R) : abody (E_F35 N) Tryz.f35 code_35 1 [] [.asis] N [.agg [.d (.int .i64 a1), .d (.int .i64 a2), .d (.str a3), .d (.str a4), .d (.int .i64 a5), .d (.int .i64 a6), .d (.str a7), .d (.str a8)]] k = S_F35 N [.agg [.d (.int .i64 a1), .d (.int .i64 a2), .d (.str a3), .d (.str a4), .d (.int .i64 a5), .d (.int .i64 a6), .d (.str a7), .d (.str a8)]] k := tg_F35 (@F42 N) (@F64 N) (@F65 N) (@F66 N) (@F67 N) (@F68 N) N a1 a2 a3 a4 a5 a6 a7 a8 R k
theorem en_35 : Enters Tryz.prog 35 := enters_of (fn := Tryz.f35) (by kernel_rfl) (by kernel_rfl) (by kernel_rfl)
theorem en_F35 : Enters Tryz.prog 35 := en_35
theorem tl_F35 (N : Nat) : TabL Tryz.prog T (C_F35 N) := (.cons (fs_F42 N) en_F42 (.cons (fs_F64 N) en_F64 (.cons (fs_F65 N) en_F65 (.cons (fs_F66 N) en_F66 (.cons (fs_F67 N) en_F67 (.cons (fs_F68 N) en_F68 .nil))))))
theorem nl_F35 (N : Nat) : NatL (C_F35 N) := (.cons (na_F42 N) (.cons (na_F64 N) (.cons (na_F65 N) (.cons (na_F66 N) (.cons (na_F67 N) (.cons (na_F68 N) .nil))))))
theorem ct_F35 (N : Nat) : NatTab (E_F35 N).C := tab_nat (l := C_F35 N) (nl_F35 N)
theorem eo_F35 (N : Nat) : EnvOk (E_F35 N) := ⟨tyOk Tryz.prog, tab_sound (l := C_F35 N) (tl_F35 N), flatOk, keysOk⟩
theorem ll_F35 : loopsOf code_35 = [] := by kernel_rfl
theorem fi_F35 (N : Nat) : FineL (E_F35 N) N [] := .nil
theorem cc_F35 (N : Nat) : CutsOk (E_F35 N) N code_35 := cuts_of (fun _ => rfl) code_35 (by rw [ll_F35]; exact fi_F35 N)
theorem v_F35 (args : List (IV A)) : (∀ (N : Nat) (R : Type) (k : IV A → List (IV A) → Option R), S_F35 N args k = none) ∨ ∃ (a1 : Int) (a2 : Int) (a3 : List UInt8) (a4 : List UInt8) (a5 : Int) (a6 : Int) (a7 : List UInt8) (a8 : List UInt8), args = [.agg [.d (.int .i64 a1), .d (.int .i64 a2), .d (.str a3), .d (.str a4), .d (.int .i64 a5), .d (.int .i64 a6), .d (.str a7), .d (.str a8)]] := by
  by_cases h : ∃ (a1 : Int) (a2 : Int) (a3 : List UInt8) (a4 : List UInt8) (a5 : Int) (a6 : Int) (a7 : List UInt8) (a8 : List UInt8), args = [.agg [.d (.int .i64 a1), .d (.int .i64 a2), .d (.str a3), .d (.str a4), .d (.int .i64 a5), .d (.int .i64 a6), .d (.str a7), .d (.str a8)]]
  · exact .inr h
  · refine .inl (fun N R k => ?_)
    unfold S_F35 SS_F35
    split
    · exact absurd ⟨_, _, _, _, _, _, _, _, rfl⟩ h
    · rfl
theorem sm_F35 (N : Nat) : Same (S_F35 N) (abody (E_F35 N) Tryz.f35 code_35 1 [] [.asis] N) := by
  intro args
  rcases v_F35 args with h | ⟨a1, a2, a3, a4, a5, a6, a7, a8, rfl⟩
  · exact .inl (h N)
  · exact .inr (fun R k => (t_F35 N a1 a2 a3 a4 a5 a6 a7 a8 R k).symm)
theorem fu_35 : Tryz.prog.funcs[35]? = some Tryz.f35 := by kernel_rfl
theorem bo_35 : Tryz.f35.body = some code_35 := by kernel_rfl
theorem fs_F35 (N : Nat) : FnSound Tryz.prog T 35 (S_F35 N) := fs_of (E_F35 N) rfl rfl (eo_F35 N) (ct_F35 N) mixed fu_35 bo_35 1 [] [.asis] N (cc_F35 N) (sm_F35 N)
theorem na_F35 (N : Nat) : NatSpec (S_F35 N) := na_of (E_F35 N) (ct_F35 N) Tryz.f35 code_35 1 [] [.asis] N (cc_F35 N) (sm_F35 N)
abbrev TF94 : Type 1 := Int → {R : Type} → (Bool → Option R) → Option R
def F94_ (N : Nat) (a1 : Int) {R : Type} (k0 : Bool → Option R) : Option R :=
  k0 (a1 != a1)
def F94 (N : Nat) : TF94 := @F94_ N
def p_F94 (args : List (IV A)) : Bool := match args with | [.d (.int .i64 _)] => true | _ => false
def SS_F94 (g : TF94) : Spec A := fun args _ k => match args with | [.d (.int .i64 a1)] => g a1 (fun z0 => k (.d (.bool z0)) [.undef]) | _ => none
def S_F94 (N : Nat) : Spec A := SS_F94 (F94 N)
noncomputable def code_94 : Code := (Tryz.f94.body).getD .skip
def C_F94_ : List (Nat × Spec A) := []
def C_F94 (N : Nat) : List (Nat × Spec A) := C_F94_
noncomputable def E_F94_ (N : Nat) : Env A := { P := Tryz.prog, T := T, C := fun f => (C_F94_).lookup f, tg := fun d => ([].lookup d).getD [], seqH := fun _ => none, loopH := fun i => [].lookup i, exitH := fun i => [].lookup i, cutL := fun _ => none, mode := fun f i => [].contains (f, i), keyed := keyT, flat := flatT, pin := [] }
noncomputable def E_F94 (N : Nat) : Env A := E_F94_ N
theorem tg_F94 (N : Nat) (a1 : Int) (R : Type) (k : IV A → List (IV A) → Option R) : abody (E_F94_ N) Tryz.f94 code_94 0 [] [.asis] N [.d (.int .i64 a1)] k = SS_F94 (@F94_ N) [.d (.int .i64 a1)] k := by kernel_rfl
theorem t_F94 (N : Nat) (a1 : Int) (R : Type) (k : IV A → List (IV A) → Option R) : abody (E_F94 N) Tryz.f94 code_94 0 [] [.asis] N [.d (.int .i64 a1)] k = S_F94 N [.d (.int .i64 a1)] k := tg_F94 N a1 R k
theorem en_94 : Enters Tryz.prog 94 := enters_of (fn := Tryz.f94) (by kernel_rfl) (by kernel_rfl) (by kernel_rfl)
theorem en_F94 : Enters Tryz.prog 94 := en_94
theorem tl_F94 (N : Nat) : TabL Tryz.prog T (C_F94 N) := .nil
theorem nl_F94 (N : Nat) : NatL (C_F94 N) := .nil
theorem ct_F94 (N : Nat) : NatTab (E_F94 N).C := tab_nat (l := C_F94 N) (nl_F94 N)
theorem eo_F94 (N : Nat) : EnvOk (E_F94 N) := ⟨tyOk Tryz.prog, tab_sound (l := C_F94 N) (tl_F94 N), flatOk, keysOk⟩
theorem ll_F94 : loopsOf code_94 = [] := by kernel_rfl
theorem fi_F94 (N : Nat) : FineL (E_F94 N) N [] := .nil
theorem cc_F94 (N : Nat) : CutsOk (E_F94 N) N code_94 := cuts_of (fun _ => rfl) code_94 (by rw [ll_F94]; exact fi_F94 N)
theorem v_F94 (args : List (IV A)) : (∀ (N : Nat) (R : Type) (k : IV A → List (IV A) → Option R), S_F94 N args k = none) ∨ ∃ (a1 : Int), args = [.d (.int .i64 a1)] := by
  by_cases h : ∃ (a1 : Int), args = [.d (.int .i64 a1)]
  · exact .inr h
  · refine .inl (fun N R k => ?_)
    unfold S_F94 SS_F94
    split
    · exact absurd ⟨_, rfl⟩ h
    · rfl
theorem sm_F94 (N : Nat) : Same (S_F94 N) (abody (E_F94 N) Tryz.f94 code_94 0 [] [.asis] N) := by
  intro args
  rcases v_F94 args with h | ⟨a1, rfl⟩
  · exact .inl (h N)
  · exact .inr (fun R k => (t_F94 N a1 R k).symm)
theorem fu_94 : Tryz.prog.funcs[94]? = some Tryz.f94 := by kernel_rfl
theorem bo_94 : Tryz.f94.body = some code_94 := by kernel_rfl
theorem fs_F94 (N : Nat) : FnSound Tryz.prog T 94 (S_F94 N) := fs_of (E_F94 N) rfl rfl (eo_F94 N) (ct_F94 N) mixed fu_94 bo_94 0 [] [.asis] N (cc_F94 N) (sm_F94 N)
theorem na_F94 (N : Nat) : NatSpec (S_F94 N) := na_of (E_F94 N) (ct_F94 N) Tryz.f94 code_94 0 [] [.asis] N (cc_F94 N) (sm_F94 N)
abbrev TF80 : Type 1 := Int → Int → {R : Type} → (Int → Option R) → Option R
def F80_ (g94 : TF94) (N : Nat) (a1 : Int) (a2 : Int) {R : Type} (k0 : Int → Option R) : Option R :=
  (g94 a1 (fun r3 => (g94 a2 (fun r4 => (bif r3 then (bif r4 then k0 0 else k0 (-1)) else (bif r4 then k0 1 else (bif (decide (a1 < a2)) then k0 (-1) else (bif (decide (a1 > a2)) then k0 1 else k0 0))))))))
def F80 (N : Nat) : TF80 := @F80_ (@F94 N) N
def p_F80 (args : List (IV A)) : Bool := match args with | [.d (.int .i64 _), .d (.int .i64 _)] => true | _ => false
def SS_F80 (g : TF80) : Spec A := fun args _ k => match args with | [.d (.int .i64 a1), .d (.int .i64 a2)] => g a1 a2 (fun z0 => k (.d (.int .i64 z0)) [.undef, .undef]) | _ => none
def S_F80 (N : Nat) : Spec A := SS_F80 (F80 N)
noncomputable def code_80 : Code := (Tryz.f80.body).getD .skip
def C_F80_ (g94 : TF94) : List (Nat × Spec A) := [(94, SS_F94 g94)]
def C_F80 (N : Nat) : List (Nat × Spec A) := C_F80_ (@F94 N)
noncomputable def E_F80_ (g94 : TF94) (N : Nat) : Env A := { P := Tryz.prog, T := T, C := fun f => (C_F80_ g94).lookup f, tg := fun d => ([].lookup d).getD [], seqH := fun _ => none, loopH := fun i => [].lookup i, exitH := fun i => [].lookup i, cutL := fun _ => none, mode := fun f i => [].contains (f, i), keyed := keyT, flat := flatT, pin := [] }
noncomputable def E_F80 (N : Nat) : Env A := E_F80_ (@F94 N) N
theorem tg_F80 (g94 : TF94) (N : Nat) (a1 : Int) (a2 : Int) (R : Type) (k : IV A → List (IV A) → Option R) : abody (E_F80_ g94 N) Tryz.f80 code_80 0 [] [.asis] N [.d (.int .i64 a1), .d (.int .i64 a2)] k = SS_F80 (@F80_ g94 N) [.d (.int .i64 a1), .d (.int .i64 a2)] k := by kernel_rfl
theorem t_F80 (N : Nat) (a1 : Int) (a2 : Int) (R : Type) (k : IV A → List (IV A) → Option R) : abody (E_F80 N) Tryz.f80 code_80 0 [] [.asis] N [.d (.int .i64 a1), .d (.int .i64 a2)] k = S_F80 N [.d (.int .i64 a1), .d (.int .i64 a2)] k := tg_F80 (@F94 N) N a1 a2 R k
theorem en_80 : Enters Tryz.prog 80 := enters_of (fn := Tryz.f80) (by kernel_rfl) (by kernel_rfl) (by kernel_rfl)
theorem en_F80 : Enters Tryz.prog 80 := en_80
theorem tl_F80 (N : Nat) : TabL Tryz.prog T (C_F80 N) := (.cons (fs_F94 N) en_F94 .nil)
theorem nl_F80 (N : Nat) : NatL (C_F80 N) := (.cons (na_F94 N) .nil)
theorem ct_F80 (N : Nat) : NatTab (E_F80 N).C := tab_nat (l := C_F80 N) (nl_F80 N)
theorem eo_F80 (N : Nat) : EnvOk (E_F80 N) := ⟨tyOk Tryz.prog, tab_sound (l := C_F80 N) (tl_F80 N), flatOk, keysOk⟩
theorem ll_F80 : loopsOf code_80 = [] := by kernel_rfl
theorem fi_F80 (N : Nat) : FineL (E_F80 N) N [] := .nil
theorem cc_F80 (N : Nat) : CutsOk (E_F80 N) N code_80 := cuts_of (fun _ => rfl) code_80 (by rw [ll_F80]; exact fi_F80 N)
theorem v_F80 (args : List (IV A)) : (∀ (N : Nat) (R : Type) (k : IV A → List (IV A) → Option R), S_F80 N args k = none) ∨ ∃ (a1 : Int) (a2 : Int), args = [.d (.int .i64 a1), .d (.int .i64 a2)] := by
  by_cases h : ∃ (a1 : Int) (a2 : Int), args = [.d (.int .i64 a1), .d (.int .i64 a2)]
  · exact .inr h
  · refine .inl (fun N R k => ?_)
    unfold S_F80 SS_F80
    split
    · exact absurd ⟨_, _, rfl⟩ h
    · rfl
theorem sm_F80 (N : Nat) : Same (S_F80 N) (abody (E_F80 N) Tryz.f80 code_80 0 [] [.asis] N) := by
  intro args
  rcases v_F80 args with h | ⟨a1, a2, rfl⟩
  · exact .inl (h N)
  · exact .inr (fun R k => (t_F80 N a1 a2 R k).symm)
theorem fu_80 : Tryz.prog.funcs[80]? = some Tryz.f80 := by kernel_rfl
theorem bo_80 : Tryz.f80.body = some code_80 := by kernel_rfl
theorem fs_F80 (N : Nat) : FnSound Tryz.prog T 80 (S_F80 N) := fs_of (E_F80 N) rfl rfl (eo_F80 N) (ct_F80 N) mixed fu_80 bo_80 0 [] [.asis] N (cc_F80 N) (sm_F80 N)
theorem na_F80 (N : Nat) : NatSpec (S_F80 N) := na_of (E_F80 N) (ct_F80 N) Tryz.f80 code_80 0 [] [.asis] N (cc_F80 N) (sm_F80 N)
def L79_3 : Nat → Nat → Int → List (Int) → Int → Int → {R : Type} → (Int → Int → Option R) → (Int → Option R) → Option R
  | _, 0, _, _, _, _, _, _, _ => none
  | N, n + 1, v2, v3, v4, v5, _, e0, e1 => (bif (decide (v5 < v4)) then (bif (decide (0 ≤ v5)) then (match v3[(v5 : Int).toNat]? with | some x7 => (bif (x7 != v2) then e0 x7 v2 else L79_3 N n v2 v3 v4 ((IntKind.i64.wrap (v5 + 1))) e0 e1) | none => none) else none) else e1 v2)
abbrev TF79 : Type 1 := List (Int) → {R : Type} → (Int → Option R) → Option R
def F79_ (N : Nat) (a1 : List (Int)) {R : Type} (k0 : Int → Option R) : Option R :=
  (L79_3 N N 0 a1 (a1.length : Int) 0 (fun e8 e9 => k0 e8) (fun e10 => k0 e10))
def F79 (N : Nat) : TF79 := @F79_ N
def p_F79 (args : List (IV A)) : Bool := match args with | [.d (.sl 3 _)] => true | _ => false
def SS_F79 (g : TF79) : Spec A := fun args _ k => match args with | [.d (.sl 3 a1)] => g a1 (fun z0 => k (.d (.int .i64 z0)) [.undef]) | _ => none
def S_F79 (N : Nat) : Spec A := SS_F79 (F79 N)
def sh_L79_3 : SSt := { fr := sparse .undef 18 [(3, .int .i64), (6, .sl 3), (7, .int .i64), (8, .int .i64)], st := sparse .none 0 [] }
def LP_L79_3 (N n : Nat) (ps : List (Pv A)) {R : Type} (K : Ex → St A → Option R) : Option R := match ps with | [.d (.int .i64 p0), .d (.sl 3 p1), .d (.int .i64 p2), .d (.int .i64 p3)] => L79_3 N n p0 p1 p2 p3 (fun z0 z1 => K .ret { fr := sparse .undef 18 [(2, .d (.int .i64 z0)), (3, .d (.int .i64 z1))], st := sparse none 0 [] }) (fun z0 => K (.exit 0) { fr := sparse .undef 18 [(3, .d (.int .i64 z0))], st := sparse none 0 [] }) | _ => none
def LS_L79_3 (N n : Nat) : Piece A := fun S _ K => match decSt sh_L79_3 S with | some ps => LP_L79_3 N n ps K | none => none
noncomputable def code_79 : Code := (Tryz.f79.body).getD .skip
def C_F79_ : List (Nat × Spec A) := []
def C_F79 (N : Nat) : List (Nat × Spec A) := C_F79_
noncomputable def E_F79_ (N : Nat) : Env A := { P := Tryz.prog, T := T, C := fun f => (C_F79_).lookup f, tg := fun d => ([].lookup d).getD [], seqH := fun _ => none, loopH := fun i => [(3, ({ keep := [3, 6, 7, 8], canon := [], stay := [] } : Hint))].lookup i, exitH := fun i => [(3, ({ keep := [2, 3], canon := [], stay := [] } : Hint))].lookup i, cutL := fun i => [(3, LS_L79_3 N N)].lookup i, mode := fun f i => [].contains (f, i), keyed := keyT, flat := flatT, pin := [] }
noncomputable def E_F79 (N : Nat) : Env A := E_F79_ N
theorem tg_F79 (N : Nat) (a1 : List (Int)) (R : Type) (k : IV A → List (IV A) → Option R) : abody (E_F79_ N) Tryz.f79 code_79 0 [] [.asis] N [.d (.sl 3 a1)] k = SS_F79 (@F79_ N) [.d (.sl 3 a1)] k := by kernel_rfl
theorem t_F79 (N : Nat) (a1 : List (Int)) (R : Type) (k : IV A → List (IV A) → Option R) : abody (E_F79 N) Tryz.f79 code_79 0 [] [.asis] N [.d (.sl 3 a1)] k = S_F79 N [.d (.sl 3 a1)] k := tg_F79 N a1 R k
noncomputable def cb_L79_3 : Code := sub [1, 1, 0, 1, 0, 0] code_79
noncomputable def bd_L79_3 (N : Nat) : Piece A := around (fun S _ K => aexec (E_F79_ N) N cb_L79_3 S K) ((firstReg cb_L79_3).bind (E_F79_ N).loopH) ((firstReg cb_L79_3).bind (E_F79_ N).exitH)
theorem b_L79_3 (N n : Nat) (p0 : Int) (p1 : List (Int)) (p2 : Int) (p3 : Int) (R : Type) (K : Ex → St A → Option R) : bd_L79_3 N { fr := sparse .undef 18 [(3, .d (.int .i64 p0)), (6, .d (.sl 3 p1)), (7, .d (.int .i64 p2)), (8, .d (.int .i64 p3))], st := sparse none 0 [] } (fun e S' => match e with | .normal => LS_L79_3 N n S' K | e => K e S') = LP_L79_3 N (n + 1) [.d (.int .i64 p0), .d (.sl 3 p1), .d (.int .i64 p2), .d (.int .i64 p3)] K := by kernel_rfl
theorem m_L79_3 (ps : List (Pv A)) : (∀ (N n : Nat) (R : Type) (K : Ex → St A → Option R), LP_L79_3 N n ps K = none) ∨ ∃ (p0 : Int) (p1 : List (Int)) (p2 : Int) (p3 : Int), ps = [.d (.int .i64 p0), .d (.sl 3 p1), .d (.int .i64 p2), .d (.int .i64 p3)] := by
  by_cases h : ∃ (p0 : Int) (p1 : List (Int)) (p2 : Int) (p3 : Int), ps = [.d (.int .i64 p0), .d (.sl 3 p1), .d (.int .i64 p2), .d (.int .i64 p3)]
  · exact .inr h
  · refine .inl (fun N n R K => ?_)
    unfold LP_L79_3
    split
    · exact absurd ⟨_, _, _, _, rfl⟩ h
    · rfl
theorem s_L79_3 (N n : Nat) (S : St A) : (∀ (R : Type) (K : Ex → St A → Option R), LS_L79_3 N (n + 1) S K = none) ∨ ∀ (R : Type) (K : Ex → St A → Option R), LS_L79_3 N (n + 1) S K = bd_L79_3 N S (fun e S' => match e with | .normal => LS_L79_3 N n S' K | e => K e S') := by
  cases hd : decSt sh_L79_3 S with
  | none => exact .inl (fun R K => by unfold LS_L79_3; rw [hd])
  | some ps =>
    have he := decSt_enc hd
    rcases m_L79_3 ps with h | ⟨p0, p1, p2, p3, rfl⟩
    · exact .inl (fun R K => by unfold LS_L79_3; rw [hd]; exact h N (n + 1) R K)
    · have hS : encSt (A := A) sh_L79_3 [.d (.int .i64 p0), .d (.sl 3 p1), .d (.int .i64 p2), .d (.int .i64 p3)] = some { fr := sparse .undef 18 [(3, .d (.int .i64 p0)), (6, .d (.sl 3 p1)), (7, .d (.int .i64 p2)), (8, .d (.int .i64 p3))], st := sparse none 0 [] } := by kernel_rfl
      rw [hS] at he
      obtain rfl := Option.some.inj he
      refine .inr (fun R K => ?_)
      rw [b_L79_3]
      unfold LS_L79_3
      rw [hd]
theorem z_L79_3 (N : Nat) (R : Type) (S : St A) (K : Ex → St A → Option R) : LS_L79_3 N 0 S K = none := by
  unfold LS_L79_3
  cases decSt sh_L79_3 S with
  | none => rfl
  | some ps =>
    simp only
    unfold LP_L79_3
    split <;> (try unfold L79_3) <;> rfl
theorem en_79 : Enters Tryz.prog 79 := enters_of (fn := Tryz.f79) (by kernel_rfl) (by kernel_rfl) (by kernel_rfl)
theorem en_F79 : Enters Tryz.prog 79 := en_79
theorem tl_F79 (N : Nat) : TabL Tryz.prog T (C_F79 N) := .nil
theorem nl_F79 (N : Nat) : NatL (C_F79 N) := .nil
theorem ct_F79 (N : Nat) : NatTab (E_F79 N).C := tab_nat (l := C_F79 N) (nl_F79 N)
theorem eo_F79 (N : Nat) : EnvOk (E_F79 N) := ⟨tyOk Tryz.prog, tab_sound (l := C_F79 N) (tl_F79 N), flatOk, keysOk⟩
theorem ll_L79_3 : loopsOf cb_L79_3 = [] := by kernel_rfl
theorem fi_L79_3 (N : Nat) : FineL (E_F79 N) N [] := .nil
theorem cc_L79_3 (N : Nat) : CutsOk (E_F79 N) N cb_L79_3 := cuts_of (fun _ => rfl) cb_L79_3 (by rw [ll_L79_3]; exact fi_L79_3 N)
theorem cg_L79_3 (N : Nat) : (firstReg cb_L79_3).bind (E_F79_ N).cutL = some (LS_L79_3 N N) := by kernel_rfl
theorem ce_L79_3 (N : Nat) : (firstReg cb_L79_3).bind (E_F79 N).cutL = some (LS_L79_3 N N) := cg_L79_3 N
theorem lf_L79_3 (N : Nat) : LoopFine (E_F79 N) N cb_L79_3 := fine_of (LS_L79_3 N) (ce_L79_3 N) (ct_F79 N) (cc_L79_3 N) (z_L79_3 N) (s_L79_3 N)
theorem ll_F79 : loopsOf code_79 = [cb_L79_3] := by kernel_rfl
theorem fi_F79 (N : Nat) : FineL (E_F79 N) N [cb_L79_3] := (.cons (lf_L79_3 N) .nil)
theorem cc_F79 (N : Nat) : CutsOk (E_F79 N) N code_79 := cuts_of (fun _ => rfl) code_79 (by rw [ll_F79]; exact fi_F79 N)
theorem v_F79 (args : List (IV A)) : (∀ (N : Nat) (R : Type) (k : IV A → List (IV A) → Option R), S_F79 N args k = none) ∨ ∃ (a1 : List (Int)), args = [.d (.sl 3 a1)] := by
  by_cases h : ∃ (a1 : List (Int)), args = [.d (.sl 3 a1)]
  · exact .inr h
  · refine .inl (fun N R k => ?_)
    unfold S_F79 SS_F79
    split
    · exact absurd ⟨_, rfl⟩ h
    · rfl
theorem sm_F79 (N : Nat) : Same (S_F79 N) (abody (E_F79 N) Tryz.f79 code_79 0 [] [.asis] N) := by
  intro args
  rcases v_F79 args with h | ⟨a1, rfl⟩
  · exact .inl (h N)
  · exact .inr (fun R k => (t_F79 N a1 R k).symm)
theorem fu_79 : Tryz.prog.funcs[79]? = some Tryz.f79 := by kernel_rfl
theorem bo_79 : Tryz.f79.body = some code_79 := by kernel_rfl
theorem fs_F79 (N : Nat) : FnSound Tryz.prog T 79 (S_F79 N) := fs_of (E_F79 N) rfl rfl (eo_F79 N) (ct_F79 N) mixed fu_79 bo_79 0 [] [.asis] N (cc_F79 N) (sm_F79 N)
theorem na_F79 (N : Nat) : NatSpec (S_F79 N) := na_of (E_F79 N) (ct_F79 N) Tryz.f79 code_79 0 [] [.asis] N (cc_F79 N) (sm_F79 N)
end Go.Am
