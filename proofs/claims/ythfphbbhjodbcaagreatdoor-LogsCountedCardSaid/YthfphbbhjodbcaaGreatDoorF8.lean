/- The functions of the program as Lean functions, each shown to be what the code computes, part 8. No condition: lemmas for the claim. -/
import Derived.Test.YthfphbbhjodbcaaGreatDoorF0
import Derived.Test.YthfphbbhjodbcaaGreatDoorFSh
import Derived.Test.YthfphbbhjodbcaaGreatDoorF1
import Derived.Test.YthfphbbhjodbcaaGreatDoorF3
import Derived.Test.YthfphbbhjodbcaaGreatDoorF4
import Derived.Test.YthfphbbhjodbcaaGreatDoorF5
import Derived.Test.YthfphbbhjodbcaaGreatDoorF7
set_option linter.unusedVariables false
set_option maxRecDepth 100000
namespace Go.Am
open Go Go.Proofs
abbrev TF112 : Type 1 := List UInt8 → List UInt8 → {R : Type} → (Bool → Option R) → Option R
def F112 (N : Nat) : TF112 := @X_cany
def SS_F112 (g : TF112) : Spec A := SSX_cany g
def S_F112 (N : Nat) : Spec A := SS_F112 (F112 N)
def p_F112 (args : List (IV A)) : Bool := match args with | [.d (.str _), .d (.str _)] => true | _ => false
theorem na_F112 (N : Nat) : NatSpec (S_F112 N) := ssx_cany_nat
theorem fs_F112 (N : Nat) : FnSound Tryz.prog T 112 (S_F112 N) := ssx_cany_sound (cany_sound (fun s cs w h1 h2 h3 h4 => Any.strings_ContainsAny_laid Tryz.lays150 (by kernel_rfl) s cs w h1 h2 h3 h4))
theorem en_F112 : Enters Tryz.prog 112 := enters_of (fn := Tryz.f112) (by kernel_rfl) (by kernel_rfl) (by kernel_rfl)
abbrev TF110 : Type 1 := List UInt8 → Int → Int → {R : Type} → (Bool → Option R) → Option R
def F110_ (g83 : TF83) (g111 : TF111) (g112 : TF112) (N : Nat) (a1 : List UInt8) (a2 : Int) (a3 : Int) {R : Type} (k0 : Bool → Option R) : Option R :=
  (g111 (a1.length : Int) a2 a3 (fun r4 => (bif r4 then (g83 a1 [97, 98, 99, 100, 101, 102, 103, 104, 105, 106, 107, 108, 109, 110, 111, 112, 113, 114, 115, 116, 117, 118, 119, 120, 121, 122, 48, 49, 50, 51, 52, 53, 54, 55, 56, 57] (fun r5 => (bif (r5 == []) then (g112 a1 [97, 98, 99, 100, 101, 102, 103, 104, 105, 106, 107, 108, 109, 110, 111, 112, 113, 114, 115, 116, 117, 118, 119, 120, 121, 122] (fun r6 => k0 r6)) else k0 false))) else k0 false)))
def F110 (N : Nat) : TF110 := @F110_ (@F83 N) (@F111 N) (@F112 N) N
def p_F110 (args : List (IV A)) : Bool := match args with | [.d (.str _), .d (.int .i64 _), .d (.int .i64 _)] => true | _ => false
def SS_F110 (g : TF110) : Spec A := fun args _ k => match args with | [.d (.str a1), .d (.int .i64 a2), .d (.int .i64 a3)] => g a1 a2 a3 (fun z0 => k (.d (.bool z0)) [.undef, .undef, .undef]) | _ => none
def S_F110 (N : Nat) : Spec A := SS_F110 (F110 N)
noncomputable def code_110 : Code := (Tryz.f110.body).getD .skip
def C_F110_ (g83 : TF83) (g111 : TF111) (g112 : TF112) : List (Nat × Spec A) := [(83, SS_F83 g83), (111, SS_F111 g111), (112, SS_F112 g112)]
def C_F110 (N : Nat) : List (Nat × Spec A) := C_F110_ (@F83 N) (@F111 N) (@F112 N)
noncomputable def E_F110_ (g83 : TF83) (g111 : TF111) (g112 : TF112) (N : Nat) : Env A := { P := Tryz.prog, T := T, C := fun f => (C_F110_ g83 g111 g112).lookup f, tg := fun d => ([].lookup d).getD [], seqH := fun _ => none, loopH := fun i => [].lookup i, exitH := fun i => [].lookup i, cutL := fun _ => none, mode := fun f i => [].contains (f, i), keyed := keyT, flat := flatT, pin := [] }
noncomputable def E_F110 (N : Nat) : Env A := E_F110_ (@F83 N) (@F111 N) (@F112 N) N
theorem tg_F110 (g83 : TF83) (g111 : TF111) (g112 : TF112) (N : Nat) (a1 : List UInt8) (a2 : Int) (a3 : Int) (R : Type) (k : IV A → List (IV A) → Option R) : abody (E_F110_ g83 g111 g112 N) Tryz.f110 code_110 0 [] [.asis] N [.d (.str a1), .d (.int .i64 a2), .d (.int .i64 a3)] k = SS_F110 (@F110_ g83 g111 g112 N) [.d (.str a1), .d (.int .i64 a2), .d (.int .i64 a3)] k := by kernel_rfl
theorem t_F110 (N : Nat) (a1 : List UInt8) (a2 : Int) (a3 : Int) (R : Type) (k : IV A → List (IV A) → Option R) : abody (E_F110 N) Tryz.f110 code_110 0 [] [.asis] N [.d (.str a1), .d (.int .i64 a2), .d (.int .i64 a3)] k = S_F110 N [.d (.str a1), .d (.int .i64 a2), .d (.int .i64 a3)] k := tg_F110 (@F83 N) (@F111 N) (@F112 N) N a1 a2 a3 R k
theorem en_110 : Enters Tryz.prog 110 := enters_of (fn := Tryz.f110) (by kernel_rfl) (by kernel_rfl) (by kernel_rfl)
theorem en_F110 : Enters Tryz.prog 110 := en_110
theorem tl_F110 (N : Nat) : TabL Tryz.prog T (C_F110 N) := (.cons (fs_F83 N) en_F83 (.cons (fs_F111 N) en_F111 (.cons (fs_F112 N) en_F112 .nil)))
theorem nl_F110 (N : Nat) : NatL (C_F110 N) := (.cons (na_F83 N) (.cons (na_F111 N) (.cons (na_F112 N) .nil)))
theorem ct_F110 (N : Nat) : NatTab (E_F110 N).C := tab_nat (l := C_F110 N) (nl_F110 N)
theorem eo_F110 (N : Nat) : EnvOk (E_F110 N) := ⟨tyOk Tryz.prog, tab_sound (l := C_F110 N) (tl_F110 N), flatOk, keysOk⟩
theorem ll_F110 : loopsOf code_110 = [] := by kernel_rfl
theorem fi_F110 (N : Nat) : FineL (E_F110 N) N [] := .nil
theorem cc_F110 (N : Nat) : CutsOk (E_F110 N) N code_110 := cuts_of (fun _ => rfl) code_110 (by rw [ll_F110]; exact fi_F110 N)
theorem v_F110 (args : List (IV A)) : (∀ (N : Nat) (R : Type) (k : IV A → List (IV A) → Option R), S_F110 N args k = none) ∨ ∃ (a1 : List UInt8) (a2 : Int) (a3 : Int), args = [.d (.str a1), .d (.int .i64 a2), .d (.int .i64 a3)] := by
  by_cases h : ∃ (a1 : List UInt8) (a2 : Int) (a3 : Int), args = [.d (.str a1), .d (.int .i64 a2), .d (.int .i64 a3)]
  · exact .inr h
  · refine .inl (fun N R k => ?_)
    unfold S_F110 SS_F110
    split
    · exact absurd ⟨_, _, _, rfl⟩ h
    · rfl
theorem sm_F110 (N : Nat) : Same (S_F110 N) (abody (E_F110 N) Tryz.f110 code_110 0 [] [.asis] N) := by
  intro args
  rcases v_F110 args with h | ⟨a1, a2, a3, rfl⟩
  · exact .inl (h N)
  · exact .inr (fun R k => (t_F110 N a1 a2 a3 R k).symm)
theorem fu_110 : Tryz.prog.funcs[110]? = some Tryz.f110 := by kernel_rfl
theorem bo_110 : Tryz.f110.body = some code_110 := by kernel_rfl
theorem fs_F110 (N : Nat) : FnSound Tryz.prog T 110 (S_F110 N) := fs_of (E_F110 N) rfl rfl (eo_F110 N) (ct_F110 N) mixed fu_110 bo_110 0 [] [.asis] N (cc_F110 N) (sm_F110 N)
theorem na_F110 (N : Nat) : NatSpec (S_F110 N) := na_of (E_F110 N) (ct_F110 N) Tryz.f110 code_110 0 [] [.asis] N (cc_F110 N) (sm_F110 N)
abbrev TF91 : Type 1 := List UInt8 → {R : Type} → (Int → Option R) → Option R
def F91_ (g109 : TF109) (g110 : TF110) (g111 : TF111) (g112 : TF112) (N : Nat) (a1 : List UInt8) {R : Type} (k0 : Int → Option R) : Option R :=
  (g109 a1 [48, 49, 50, 51, 52, 53, 54, 55, 56, 57] (fun r2 => (g110 a1 3 10 (fun r3 => (bif (!r3) then k0 (-1) else (g111 r2 1 3 (fun r4 => (bif (!r4) then k0 (-1) else (g111 ((IntKind.i64.wrap ((IntKind.i64.wrap ((a1.length : Int) - 1)) - r2))) 1 4 (fun r5 => (bif (!r5) then k0 (-1) else (bif (decide (0 ≤ r2) && decide (r2 ≤ (a1.length : Int))) then (g112 ((a1.take (r2 : Int).toNat)) [97, 98, 99, 100, 101, 102, 103, 104, 105, 106, 107, 108, 109, 110, 111, 112, 113, 114, 115, 116, 117, 118, 119, 120, 121, 122] (fun r6 => (bif (!r6) then k0 (-1) else k0 r2))) else none))))))))))))
def F91 (N : Nat) : TF91 := @F91_ (@F109 N) (@F110 N) (@F111 N) (@F112 N) N
def p_F91 (args : List (IV A)) : Bool := match args with | [.d (.str _)] => true | _ => false
def SS_F91 (g : TF91) : Spec A := fun args _ k => match args with | [.d (.str a1)] => g a1 (fun z0 => k (.d (.int .i64 z0)) [.undef]) | _ => none
def S_F91 (N : Nat) : Spec A := SS_F91 (F91 N)
noncomputable def code_91 : Code := (Tryz.f91.body).getD .skip
def C_F91_ (g109 : TF109) (g110 : TF110) (g111 : TF111) (g112 : TF112) : List (Nat × Spec A) := [(109, SS_F109 g109), (110, SS_F110 g110), (111, SS_F111 g111), (112, SS_F112 g112)]
def C_F91 (N : Nat) : List (Nat × Spec A) := C_F91_ (@F109 N) (@F110 N) (@F111 N) (@F112 N)
noncomputable def E_F91_ (g109 : TF109) (g110 : TF110) (g111 : TF111) (g112 : TF112) (N : Nat) : Env A := { P := Tryz.prog, T := T, C := fun f => (C_F91_ g109 g110 g111 g112).lookup f, tg := fun d => ([].lookup d).getD [], seqH := fun _ => none, loopH := fun i => [].lookup i, exitH := fun i => [].lookup i, cutL := fun _ => none, mode := fun f i => [].contains (f, i), keyed := keyT, flat := flatT, pin := [] }
noncomputable def E_F91 (N : Nat) : Env A := E_F91_ (@F109 N) (@F110 N) (@F111 N) (@F112 N) N
theorem tg_F91 (g109 : TF109) (g110 : TF110) (g111 : TF111) (g112 : TF112) (N : Nat) (a1 : List UInt8) (R : Type) (k : IV A → List (IV A) → Option R) : abody (E_F91_ g109 g110 g111 g112 N) Tryz.f91 code_91 0 [] [.asis] N [.d (.str a1)] k = SS_F91 (@F91_ g109 g110 g111 g112 N) [.d (.str a1)] k := by kernel_rfl
theorem t_F91 (N : Nat) (a1 : List UInt8) (R : Type) (k : IV A → List (IV A) → Option R) : abody (E_F91 N) Tryz.f91 code_91 0 [] [.asis] N [.d (.str a1)] k = S_F91 N [.d (.str a1)] k := tg_F91 (@F109 N) (@F110 N) (@F111 N) (@F112 N) N a1 R k
theorem en_91 : Enters Tryz.prog 91 := enters_of (fn := Tryz.f91) (by kernel_rfl) (by kernel_rfl) (by kernel_rfl)
theorem en_F91 : Enters Tryz.prog 91 := en_91
theorem tl_F91 (N : Nat) : TabL Tryz.prog T (C_F91 N) := (.cons (fs_F109 N) en_F109 (.cons (fs_F110 N) en_F110 (.cons (fs_F111 N) en_F111 (.cons (fs_F112 N) en_F112 .nil))))
theorem nl_F91 (N : Nat) : NatL (C_F91 N) := (.cons (na_F109 N) (.cons (na_F110 N) (.cons (na_F111 N) (.cons (na_F112 N) .nil))))
theorem ct_F91 (N : Nat) : NatTab (E_F91 N).C := tab_nat (l := C_F91 N) (nl_F91 N)
theorem eo_F91 (N : Nat) : EnvOk (E_F91 N) := ⟨tyOk Tryz.prog, tab_sound (l := C_F91 N) (tl_F91 N), flatOk, keysOk⟩
theorem ll_F91 : loopsOf code_91 = [] := by kernel_rfl
theorem fi_F91 (N : Nat) : FineL (E_F91 N) N [] := .nil
theorem cc_F91 (N : Nat) : CutsOk (E_F91 N) N code_91 := cuts_of (fun _ => rfl) code_91 (by rw [ll_F91]; exact fi_F91 N)
theorem v_F91 (args : List (IV A)) : (∀ (N : Nat) (R : Type) (k : IV A → List (IV A) → Option R), S_F91 N args k = none) ∨ ∃ (a1 : List UInt8), args = [.d (.str a1)] := by
  by_cases h : ∃ (a1 : List UInt8), args = [.d (.str a1)]
  · exact .inr h
  · refine .inl (fun N R k => ?_)
    unfold S_F91 SS_F91
    split
    · exact absurd ⟨_, rfl⟩ h
    · rfl
theorem sm_F91 (N : Nat) : Same (S_F91 N) (abody (E_F91 N) Tryz.f91 code_91 0 [] [.asis] N) := by
  intro args
  rcases v_F91 args with h | ⟨a1, rfl⟩
  · exact .inl (h N)
  · exact .inr (fun R k => (t_F91 N a1 R k).symm)
theorem fu_91 : Tryz.prog.funcs[91]? = some Tryz.f91 := by kernel_rfl
theorem bo_91 : Tryz.f91.body = some code_91 := by kernel_rfl
theorem fs_F91 (N : Nat) : FnSound Tryz.prog T 91 (S_F91 N) := fs_of (E_F91 N) rfl rfl (eo_F91 N) (ct_F91 N) mixed fu_91 bo_91 0 [] [.asis] N (cc_F91 N) (sm_F91 N)
theorem na_F91 (N : Nat) : NatSpec (S_F91 N) := na_of (E_F91 N) (ct_F91 N) Tryz.f91 code_91 0 [] [.asis] N (cc_F91 N) (sm_F91 N)
abbrev TF90 : Type 1 := List UInt8 → {R : Type} → (List UInt8 → List UInt8 → List UInt8 → Int → List UInt8 → Option R) → Option R
def F90_ (g91 : TF91) (N : Nat) (a1 : List UInt8) {R : Type} (k0 : List UInt8 → List UInt8 → List UInt8 → Int → List UInt8 → Option R) : Option R :=
  (g91 a1 (fun r2 => (bif (decide (0 ≤ (IntKind.i64.wrap (r2 + 1))) && decide ((IntKind.i64.wrap (r2 + 1)) ≤ (a1.length : Int))) then (bif (decide (0 ≤ (IntKind.i64.wrap (r2 + 1))) && decide ((IntKind.i64.wrap (r2 + 1)) ≤ (a1.length : Int))) then k0 a1 ((a1.take ((IntKind.i64.wrap (r2 + 1)) : Int).toNat)) ((a1.drop ((IntKind.i64.wrap (r2 + 1)) : Int).toNat)) 0 [] else none) else none)))
def F90 (N : Nat) : TF90 := @F90_ (@F91 N) N
def p_F90 (args : List (IV A)) : Bool := match args with | [.d (.str _)] => true | _ => false
def SS_F90 (g : TF90) : Spec A := fun args _ k => match args with | [.d (.str a1)] => g a1 (fun z0 z1 z2 z3 z4 => k (.agg [.d (.str z0), .d (.str z1), .d (.str z2), .d (.int .i64 z3), .d (.str z4)]) [.undef]) | _ => none
def S_F90 (N : Nat) : Spec A := SS_F90 (F90 N)
noncomputable def code_90 : Code := (Tryz.f90.body).getD .skip
def C_F90_ (g91 : TF91) : List (Nat × Spec A) := [(91, SS_F91 g91)]
def C_F90 (N : Nat) : List (Nat × Spec A) := C_F90_ (@F91 N)
noncomputable def E_F90_ (g91 : TF91) (N : Nat) : Env A := { P := Tryz.prog, T := T, C := fun f => (C_F90_ g91).lookup f, tg := fun d => ([(2, [0])].lookup d).getD [], seqH := fun _ => none, loopH := fun i => [].lookup i, exitH := fun i => [].lookup i, cutL := fun _ => none, mode := fun f i => [].contains (f, i), keyed := keyT, flat := flatT, pin := [] }
noncomputable def E_F90 (N : Nat) : Env A := E_F90_ (@F91 N) N
theorem tg_F90 (g91 : TF91) (N : Nat) (a1 : List UInt8) (R : Type) (k : IV A → List (IV A) → Option R) : abody (E_F90_ g91 N) Tryz.f90 code_90 1 [] [.asis] N [.d (.str a1)] k = SS_F90 (@F90_ g91 N) [.d (.str a1)] k := by kernel_rfl
theorem t_F90 (N : Nat) (a1 : List UInt8) (R : Type) (k : IV A → List (IV A) → Option R) : abody (E_F90 N) Tryz.f90 code_90 1 [] [.asis] N [.d (.str a1)] k = S_F90 N [.d (.str a1)] k := tg_F90 (@F91 N) N a1 R k
theorem en_90 : Enters Tryz.prog 90 := enters_of (fn := Tryz.f90) (by kernel_rfl) (by kernel_rfl) (by kernel_rfl)
theorem en_F90 : Enters Tryz.prog 90 := en_90
theorem tl_F90 (N : Nat) : TabL Tryz.prog T (C_F90 N) := (.cons (fs_F91 N) en_F91 .nil)
theorem nl_F90 (N : Nat) : NatL (C_F90 N) := (.cons (na_F91 N) .nil)
theorem ct_F90 (N : Nat) : NatTab (E_F90 N).C := tab_nat (l := C_F90 N) (nl_F90 N)
theorem eo_F90 (N : Nat) : EnvOk (E_F90 N) := ⟨tyOk Tryz.prog, tab_sound (l := C_F90 N) (tl_F90 N), flatOk, keysOk⟩
theorem ll_F90 : loopsOf code_90 = [] := by kernel_rfl
theorem fi_F90 (N : Nat) : FineL (E_F90 N) N [] := .nil
theorem cc_F90 (N : Nat) : CutsOk (E_F90 N) N code_90 := cuts_of (fun _ => rfl) code_90 (by rw [ll_F90]; exact fi_F90 N)
theorem v_F90 (args : List (IV A)) : (∀ (N : Nat) (R : Type) (k : IV A → List (IV A) → Option R), S_F90 N args k = none) ∨ ∃ (a1 : List UInt8), args = [.d (.str a1)] := by
  by_cases h : ∃ (a1 : List UInt8), args = [.d (.str a1)]
  · exact .inr h
  · refine .inl (fun N R k => ?_)
    unfold S_F90 SS_F90
    split
    · exact absurd ⟨_, rfl⟩ h
    · rfl
theorem sm_F90 (N : Nat) : Same (S_F90 N) (abody (E_F90 N) Tryz.f90 code_90 1 [] [.asis] N) := by
  intro args
  rcases v_F90 args with h | ⟨a1, rfl⟩
  · exact .inl (h N)
  · exact .inr (fun R k => (t_F90 N a1 R k).symm)
theorem fu_90 : Tryz.prog.funcs[90]? = some Tryz.f90 := by kernel_rfl
theorem bo_90 : Tryz.f90.body = some code_90 := by kernel_rfl
theorem fs_F90 (N : Nat) : FnSound Tryz.prog T 90 (S_F90 N) := fs_of (E_F90 N) rfl rfl (eo_F90 N) (ct_F90 N) mixed fu_90 bo_90 1 [] [.asis] N (cc_F90 N) (sm_F90 N)
theorem na_F90 (N : Nat) : NatSpec (S_F90 N) := na_of (E_F90 N) (ct_F90 N) Tryz.f90 code_90 1 [] [.asis] N (cc_F90 N) (sm_F90 N)
abbrev TF92 : Type 1 := List UInt8 → {R : Type} → (Bool → Option R) → Option R
def F92_ (g110 : TF110) (N : Nat) (a1 : List UInt8) {R : Type} (k0 : Bool → Option R) : Option R :=
  (g110 a1 1 4 (fun r2 => k0 r2))
def F92 (N : Nat) : TF92 := @F92_ (@F110 N) N
def p_F92 (args : List (IV A)) : Bool := match args with | [.d (.str _)] => true | _ => false
def SS_F92 (g : TF92) : Spec A := fun args _ k => match args with | [.d (.str a1)] => g a1 (fun z0 => k (.d (.bool z0)) [.undef]) | _ => none
def S_F92 (N : Nat) : Spec A := SS_F92 (F92 N)
noncomputable def code_92 : Code := (Tryz.f92.body).getD .skip
def C_F92_ (g110 : TF110) : List (Nat × Spec A) := [(110, SS_F110 g110)]
def C_F92 (N : Nat) : List (Nat × Spec A) := C_F92_ (@F110 N)
noncomputable def E_F92_ (g110 : TF110) (N : Nat) : Env A := { P := Tryz.prog, T := T, C := fun f => (C_F92_ g110).lookup f, tg := fun d => ([].lookup d).getD [], seqH := fun _ => none, loopH := fun i => [].lookup i, exitH := fun i => [].lookup i, cutL := fun _ => none, mode := fun f i => [].contains (f, i), keyed := keyT, flat := flatT, pin := [] }
noncomputable def E_F92 (N : Nat) : Env A := E_F92_ (@F110 N) N
theorem tg_F92 (g110 : TF110) (N : Nat) (a1 : List UInt8) (R : Type) (k : IV A → List (IV A) → Option R) : abody (E_F92_ g110 N) Tryz.f92 code_92 0 [] [.asis] N [.d (.str a1)] k = SS_F92 (@F92_ g110 N) [.d (.str a1)] k := by kernel_rfl
theorem t_F92 (N : Nat) (a1 : List UInt8) (R : Type) (k : IV A → List (IV A) → Option R) : abody (E_F92 N) Tryz.f92 code_92 0 [] [.asis] N [.d (.str a1)] k = S_F92 N [.d (.str a1)] k := tg_F92 (@F110 N) N a1 R k
theorem en_92 : Enters Tryz.prog 92 := enters_of (fn := Tryz.f92) (by kernel_rfl) (by kernel_rfl) (by kernel_rfl)
theorem en_F92 : Enters Tryz.prog 92 := en_92
theorem tl_F92 (N : Nat) : TabL Tryz.prog T (C_F92 N) := (.cons (fs_F110 N) en_F110 .nil)
theorem nl_F92 (N : Nat) : NatL (C_F92 N) := (.cons (na_F110 N) .nil)
theorem ct_F92 (N : Nat) : NatTab (E_F92 N).C := tab_nat (l := C_F92 N) (nl_F92 N)
theorem eo_F92 (N : Nat) : EnvOk (E_F92 N) := ⟨tyOk Tryz.prog, tab_sound (l := C_F92 N) (tl_F92 N), flatOk, keysOk⟩
theorem ll_F92 : loopsOf code_92 = [] := by kernel_rfl
theorem fi_F92 (N : Nat) : FineL (E_F92 N) N [] := .nil
theorem cc_F92 (N : Nat) : CutsOk (E_F92 N) N code_92 := cuts_of (fun _ => rfl) code_92 (by rw [ll_F92]; exact fi_F92 N)
theorem v_F92 (args : List (IV A)) : (∀ (N : Nat) (R : Type) (k : IV A → List (IV A) → Option R), S_F92 N args k = none) ∨ ∃ (a1 : List UInt8), args = [.d (.str a1)] := by
  by_cases h : ∃ (a1 : List UInt8), args = [.d (.str a1)]
  · exact .inr h
  · refine .inl (fun N R k => ?_)
    unfold S_F92 SS_F92
    split
    · exact absurd ⟨_, rfl⟩ h
    · rfl
theorem sm_F92 (N : Nat) : Same (S_F92 N) (abody (E_F92 N) Tryz.f92 code_92 0 [] [.asis] N) := by
  intro args
  rcases v_F92 args with h | ⟨a1, rfl⟩
  · exact .inl (h N)
  · exact .inr (fun R k => (t_F92 N a1 R k).symm)
theorem fu_92 : Tryz.prog.funcs[92]? = some Tryz.f92 := by kernel_rfl
theorem bo_92 : Tryz.f92.body = some code_92 := by kernel_rfl
theorem fs_F92 (N : Nat) : FnSound Tryz.prog T 92 (S_F92 N) := fs_of (E_F92 N) rfl rfl (eo_F92 N) (ct_F92 N) mixed fu_92 bo_92 0 [] [.asis] N (cc_F92 N) (sm_F92 N)
theorem na_F92 (N : Nat) : NatSpec (S_F92 N) := na_of (E_F92 N) (ct_F92 N) Tryz.f92 code_92 0 [] [.asis] N (cc_F92 N) (sm_F92 N)
abbrev TF113 : Type 1 := List UInt8 → List UInt8 → {R : Type} → (Int → Option R) → Option R
def F113_ (g123 : TF123) (N : Nat) (a1 : List UInt8) (a2 : List UInt8) {R : Type} (k0 : Int → Option R) : Option R :=
  (g123 a1 a2 (fun r3 => k0 r3))
def F113 (N : Nat) : TF113 := @F113_ (@F123 N) N
def p_F113 (args : List (IV A)) : Bool := match args with | [.d (.str _), .d (.str _)] => true | _ => false
def SS_F113 (g : TF113) : Spec A := fun args _ k => match args with | [.d (.str a1), .d (.str a2)] => g a1 a2 (fun z0 => k (.d (.int .i64 z0)) [.undef, .undef]) | _ => none
def S_F113 (N : Nat) : Spec A := SS_F113 (F113 N)
noncomputable def code_113 : Code := (Tryz.f113.body).getD .skip
def C_F113_ (g123 : TF123) : List (Nat × Spec A) := [(123, SS_F123 g123)]
def C_F113 (N : Nat) : List (Nat × Spec A) := C_F113_ (@F123 N)
noncomputable def E_F113_ (g123 : TF123) (N : Nat) : Env A := { P := Tryz.prog, T := T, C := fun f => (C_F113_ g123).lookup f, tg := fun d => ([].lookup d).getD [], seqH := fun _ => none, loopH := fun i => [].lookup i, exitH := fun i => [].lookup i, cutL := fun _ => none, mode := fun f i => [].contains (f, i), keyed := keyT, flat := flatT, pin := [] }
noncomputable def E_F113 (N : Nat) : Env A := E_F113_ (@F123 N) N
theorem tg_F113 (g123 : TF123) (N : Nat) (a1 : List UInt8) (a2 : List UInt8) (R : Type) (k : IV A → List (IV A) → Option R) : abody (E_F113_ g123 N) Tryz.f113 code_113 0 [] [.asis] N [.d (.str a1), .d (.str a2)] k = SS_F113 (@F113_ g123 N) [.d (.str a1), .d (.str a2)] k := by kernel_rfl
theorem t_F113 (N : Nat) (a1 : List UInt8) (a2 : List UInt8) (R : Type) (k : IV A → List (IV A) → Option R) : abody (E_F113 N) Tryz.f113 code_113 0 [] [.asis] N [.d (.str a1), .d (.str a2)] k = S_F113 N [.d (.str a1), .d (.str a2)] k := tg_F113 (@F123 N) N a1 a2 R k
theorem en_113 : Enters Tryz.prog 113 := enters_of (fn := Tryz.f113) (by kernel_rfl) (by kernel_rfl) (by kernel_rfl)
theorem en_F113 : Enters Tryz.prog 113 := en_113
theorem tl_F113 (N : Nat) : TabL Tryz.prog T (C_F113 N) := (.cons (fs_F123 N) en_F123 .nil)
theorem nl_F113 (N : Nat) : NatL (C_F113 N) := (.cons (na_F123 N) .nil)
theorem ct_F113 (N : Nat) : NatTab (E_F113 N).C := tab_nat (l := C_F113 N) (nl_F113 N)
theorem eo_F113 (N : Nat) : EnvOk (E_F113 N) := ⟨tyOk Tryz.prog, tab_sound (l := C_F113 N) (tl_F113 N), flatOk, keysOk⟩
theorem ll_F113 : loopsOf code_113 = [] := by kernel_rfl
theorem fi_F113 (N : Nat) : FineL (E_F113 N) N [] := .nil
theorem cc_F113 (N : Nat) : CutsOk (E_F113 N) N code_113 := cuts_of (fun _ => rfl) code_113 (by rw [ll_F113]; exact fi_F113 N)
theorem v_F113 (args : List (IV A)) : (∀ (N : Nat) (R : Type) (k : IV A → List (IV A) → Option R), S_F113 N args k = none) ∨ ∃ (a1 : List UInt8) (a2 : List UInt8), args = [.d (.str a1), .d (.str a2)] := by
  by_cases h : ∃ (a1 : List UInt8) (a2 : List UInt8), args = [.d (.str a1), .d (.str a2)]
  · exact .inr h
  · refine .inl (fun N R k => ?_)
    unfold S_F113 SS_F113
    split
    · exact absurd ⟨_, _, rfl⟩ h
    · rfl
theorem sm_F113 (N : Nat) : Same (S_F113 N) (abody (E_F113 N) Tryz.f113 code_113 0 [] [.asis] N) := by
  intro args
  rcases v_F113 args with h | ⟨a1, a2, rfl⟩
  · exact .inl (h N)
  · exact .inr (fun R k => (t_F113 N a1 a2 R k).symm)
theorem fu_113 : Tryz.prog.funcs[113]? = some Tryz.f113 := by kernel_rfl
theorem bo_113 : Tryz.f113.body = some code_113 := by kernel_rfl
theorem fs_F113 (N : Nat) : FnSound Tryz.prog T 113 (S_F113 N) := fs_of (E_F113 N) rfl rfl (eo_F113 N) (ct_F113 N) mixed fu_113 bo_113 0 [] [.asis] N (cc_F113 N) (sm_F113 N)
theorem na_F113 (N : Nat) : NatSpec (S_F113 N) := na_of (E_F113 N) (ct_F113 N) Tryz.f113 code_113 0 [] [.asis] N (cc_F113 N) (sm_F113 N)
abbrev TF93 : Type 1 := List UInt8 → List UInt8 → {R : Type} → (Bool → Option R) → Option R
def F93_ (g113 : TF113) (N : Nat) (a1 : List UInt8) (a2 : List UInt8) {R : Type} (k0 : Bool → Option R) : Option R :=
  (g113 a1 a2 (fun r3 => k0 ((decide (r3 ≥ 0)))))
def F93 (N : Nat) : TF93 := @F93_ (@F113 N) N
def p_F93 (args : List (IV A)) : Bool := match args with | [.d (.str _), .d (.str _)] => true | _ => false
def SS_F93 (g : TF93) : Spec A := fun args _ k => match args with | [.d (.str a1), .d (.str a2)] => g a1 a2 (fun z0 => k (.d (.bool z0)) [.undef, .undef]) | _ => none
def S_F93 (N : Nat) : Spec A := SS_F93 (F93 N)
noncomputable def code_93 : Code := (Tryz.f93.body).getD .skip
def C_F93_ (g113 : TF113) : List (Nat × Spec A) := [(113, SS_F113 g113)]
def C_F93 (N : Nat) : List (Nat × Spec A) := C_F93_ (@F113 N)
noncomputable def E_F93_ (g113 : TF113) (N : Nat) : Env A := { P := Tryz.prog, T := T, C := fun f => (C_F93_ g113).lookup f, tg := fun d => ([].lookup d).getD [], seqH := fun _ => none, loopH := fun i => [].lookup i, exitH := fun i => [].lookup i, cutL := fun _ => none, mode := fun f i => [].contains (f, i), keyed := keyT, flat := flatT, pin := [] }
noncomputable def E_F93 (N : Nat) : Env A := E_F93_ (@F113 N) N
theorem tg_F93 (g113 : TF113) (N : Nat) (a1 : List UInt8) (a2 : List UInt8) (R : Type) (k : IV A → List (IV A) → Option R) : abody (E_F93_ g113 N) Tryz.f93 code_93 0 [] [.asis] N [.d (.str a1), .d (.str a2)] k = SS_F93 (@F93_ g113 N) [.d (.str a1), .d (.str a2)] k := by kernel_rfl
theorem t_F93 (N : Nat) (a1 : List UInt8) (a2 : List UInt8) (R : Type) (k : IV A → List (IV A) → Option R) : abody (E_F93 N) Tryz.f93 code_93 0 [] [.asis] N [.d (.str a1), .d (.str a2)] k = S_F93 N [.d (.str a1), .d (.str a2)] k := tg_F93 (@F113 N) N a1 a2 R k
theorem en_93 : Enters Tryz.prog 93 := enters_of (fn := Tryz.f93) (by kernel_rfl) (by kernel_rfl) (by kernel_rfl)
theorem en_F93 : Enters Tryz.prog 93 := en_93
theorem tl_F93 (N : Nat) : TabL Tryz.prog T (C_F93 N) := (.cons (fs_F113 N) en_F113 .nil)
theorem nl_F93 (N : Nat) : NatL (C_F93 N) := (.cons (na_F113 N) .nil)
theorem ct_F93 (N : Nat) : NatTab (E_F93 N).C := tab_nat (l := C_F93 N) (nl_F93 N)
theorem eo_F93 (N : Nat) : EnvOk (E_F93 N) := ⟨tyOk Tryz.prog, tab_sound (l := C_F93 N) (tl_F93 N), flatOk, keysOk⟩
theorem ll_F93 : loopsOf code_93 = [] := by kernel_rfl
theorem fi_F93 (N : Nat) : FineL (E_F93 N) N [] := .nil
theorem cc_F93 (N : Nat) : CutsOk (E_F93 N) N code_93 := cuts_of (fun _ => rfl) code_93 (by rw [ll_F93]; exact fi_F93 N)
theorem v_F93 (args : List (IV A)) : (∀ (N : Nat) (R : Type) (k : IV A → List (IV A) → Option R), S_F93 N args k = none) ∨ ∃ (a1 : List UInt8) (a2 : List UInt8), args = [.d (.str a1), .d (.str a2)] := by
  by_cases h : ∃ (a1 : List UInt8) (a2 : List UInt8), args = [.d (.str a1), .d (.str a2)]
  · exact .inr h
  · refine .inl (fun N R k => ?_)
    unfold S_F93 SS_F93
    split
    · exact absurd ⟨_, _, rfl⟩ h
    · rfl
theorem sm_F93 (N : Nat) : Same (S_F93 N) (abody (E_F93 N) Tryz.f93 code_93 0 [] [.asis] N) := by
  intro args
  rcases v_F93 args with h | ⟨a1, a2, rfl⟩
  · exact .inl (h N)
  · exact .inr (fun R k => (t_F93 N a1 a2 R k).symm)
theorem fu_93 : Tryz.prog.funcs[93]? = some Tryz.f93 := by kernel_rfl
theorem bo_93 : Tryz.f93.body = some code_93 := by kernel_rfl
theorem fs_F93 (N : Nat) : FnSound Tryz.prog T 93 (S_F93 N) := fs_of (E_F93 N) rfl rfl (eo_F93 N) (ct_F93 N) mixed fu_93 bo_93 0 [] [.asis] N (cc_F93 N) (sm_F93 N)
theorem na_F93 (N : Nat) : NatSpec (S_F93 N) := na_of (E_F93 N) (ct_F93 N) Tryz.f93 code_93 0 [] [.asis] N (cc_F93 N) (sm_F93 N)
abbrev TF77 : Type 1 := List UInt8 → {R : Type} → (List UInt8 → List UInt8 → List UInt8 → Int → List UInt8 → Bool → Option R) → Option R
def F77_ (g89 : TF89) (g90 : TF90) (g91 : TF91) (g92 : TF92) (g93 : TF93) (N : Nat) (a1 : List UInt8) {R : Type} (k0 : List UInt8 → List UInt8 → List UInt8 → Int → List UInt8 → Bool → Option R) : Option R :=
  (g89 a1 [47] (fun r2 r3 r4 => (bif (decide ((a1.length : Int) > 14)) then k0 [] [] [] 0 [] false else (bif (!r4) then (g91 r2 (fun r5 => (bif (decide (r5 < 0)) then k0 [] [] [] 0 [] false else (g90 r2 (fun r6 r7 r8 r9 r10 => k0 r6 r7 r8 r9 r10 true))))) else (g91 r3 (fun r11 => (bif (decide (r11 ≥ 0)) then (g92 r2 (fun r12 => (bif r12 then (g90 r3 (fun r13 r14 r15 r16 r17 => k0 r13 r14 r15 1 r2 true)) else (g91 r2 (fun r18 => (bif (decide (r18 < 0)) then k0 [] [] [] 0 [] false else (g90 r2 (fun r19 r20 r21 r22 r23 => (bif (r3 == [112]) then k0 r19 r20 r21 3 r23 true else (bif (r3 == [109]) then k0 r19 r20 r21 4 r23 true else (bif (r3 == [109, 109]) then k0 r19 r20 r21 5 r23 true else (bif (r3 == [97, 109]) then k0 r19 r20 r21 6 r23 true else (bif ((r3.length : Int) == 1) then (g93 [48, 49, 50, 51, 52, 53, 54, 55, 56, 57] r3 (fun r24 => (bif r24 then k0 r19 r20 r21 2 r3 true else (g92 r3 (fun r25 => (bif r25 then k0 r19 r20 r21 1 r3 true else k0 [] [] [] 0 [] false)))))) else (g92 r3 (fun r26 => (bif r26 then k0 r19 r20 r21 1 r3 true else k0 [] [] [] 0 [] false)))))))))))))))) else (g91 r2 (fun r27 => (bif (decide (r27 < 0)) then k0 [] [] [] 0 [] false else (g90 r2 (fun r28 r29 r30 r31 r32 => (bif (r3 == [112]) then k0 r28 r29 r30 3 r32 true else (bif (r3 == [109]) then k0 r28 r29 r30 4 r32 true else (bif (r3 == [109, 109]) then k0 r28 r29 r30 5 r32 true else (bif (r3 == [97, 109]) then k0 r28 r29 r30 6 r32 true else (bif ((r3.length : Int) == 1) then (g93 [48, 49, 50, 51, 52, 53, 54, 55, 56, 57] r3 (fun r33 => (bif r33 then k0 r28 r29 r30 2 r3 true else (g92 r3 (fun r34 => (bif r34 then k0 r28 r29 r30 1 r3 true else k0 [] [] [] 0 [] false)))))) else (g92 r3 (fun r35 => (bif r35 then k0 r28 r29 r30 1 r3 true else k0 [] [] [] 0 [] false))))))))))))))))))))
def F77 (N : Nat) : TF77 := @F77_ (@F89 N) (@F90 N) (@F91 N) (@F92 N) (@F93 N) N
def p_F77 (args : List (IV A)) : Bool := match args with | [.d (.str _)] => true | _ => false
def SS_F77 (g : TF77) : Spec A := fun args _ k => match args with | [.d (.str a1)] => g a1 (fun z0 z1 z2 z3 z4 z5 => k (.tup [.agg [.d (.str z0), .d (.str z1), .d (.str z2), .d (.int .i64 z3), .d (.str z4)], .d (.bool z5)]) [.undef]) | _ => none
def S_F77 (N : Nat) : Spec A := SS_F77 (F77 N)
noncomputable def code_77 : Code := (Tryz.f77.body).getD .skip
def C_F77_ (g89 : TF89) (g90 : TF90) (g91 : TF91) (g92 : TF92) (g93 : TF93) : List (Nat × Spec A) := [(89, SS_F89 g89), (90, SS_F90 g90), (91, SS_F91 g91), (92, SS_F92 g92), (93, SS_F93 g93)]
def C_F77 (N : Nat) : List (Nat × Spec A) := C_F77_ (@F89 N) (@F90 N) (@F91 N) (@F92 N) (@F93 N)
noncomputable def E_F77_ (g89 : TF89) (g90 : TF90) (g91 : TF91) (g92 : TF92) (g93 : TF93) (N : Nat) : Env A := { P := Tryz.prog, T := T, C := fun f => (C_F77_ g89 g90 g91 g92 g93).lookup f, tg := fun d => ([(2, [0]), (8, [1]), (9, [2])].lookup d).getD [], seqH := fun _ => none, loopH := fun i => [].lookup i, exitH := fun i => [].lookup i, cutL := fun _ => none, mode := fun f i => [].contains (f, i), keyed := keyT, flat := flatT, pin := [] }
noncomputable def E_F77 (N : Nat) : Env A := E_F77_ (@F89 N) (@F90 N) (@F91 N) (@F92 N) (@F93 N) N
theorem tg_F77 (g89 : TF89) (g90 : TF90) (g91 : TF91) (g92 : TF92) (g93 : TF93) (N : Nat) (a1 : List UInt8) (R : Type) (k : IV A → List (IV A) → Option R) : abody (E_F77_ g89 g90 g91 g92 g93 N) Tryz.f77 code_77 3 [] [.asis, .asis] N [.d (.str a1)] k = SS_F77 (@F77_ g89 g90 g91 g92 g93 N) [.d (.str a1)] k := by kernel_rfl
theorem t_F77 (N : Nat) (a1 : List UInt8) (R : Type) (k : IV A → List (IV A) → Option R) : abody (E_F77 N) Tryz.f77 code_77 3 [] [.asis, .asis] N [.d (.str a1)] k = S_F77 N [.d (.str a1)] k := tg_F77 (@F89 N) (@F90 N) (@F91 N) (@F92 N) (@F93 N) N a1 R k
theorem en_77 : Enters Tryz.prog 77 := enters_of (fn := Tryz.f77) (by kernel_rfl) (by kernel_rfl) (by kernel_rfl)
theorem en_F77 : Enters Tryz.prog 77 := en_77
theorem tl_F77 (N : Nat) : TabL Tryz.prog T (C_F77 N) := (.cons (fs_F89 N) en_F89 (.cons (fs_F90 N) en_F90 (.cons (fs_F91 N) en_F91 (.cons (fs_F92 N) en_F92 (.cons (fs_F93 N) en_F93 .nil)))))
theorem nl_F77 (N : Nat) : NatL (C_F77 N) := (.cons (na_F89 N) (.cons (na_F90 N) (.cons (na_F91 N) (.cons (na_F92 N) (.cons (na_F93 N) .nil)))))
theorem ct_F77 (N : Nat) : NatTab (E_F77 N).C := tab_nat (l := C_F77 N) (nl_F77 N)
theorem eo_F77 (N : Nat) : EnvOk (E_F77 N) := ⟨tyOk Tryz.prog, tab_sound (l := C_F77 N) (tl_F77 N), flatOk, keysOk⟩
theorem ll_F77 : loopsOf code_77 = [] := by kernel_rfl
theorem fi_F77 (N : Nat) : FineL (E_F77 N) N [] := .nil
theorem cc_F77 (N : Nat) : CutsOk (E_F77 N) N code_77 := cuts_of (fun _ => rfl) code_77 (by rw [ll_F77]; exact fi_F77 N)
theorem v_F77 (args : List (IV A)) : (∀ (N : Nat) (R : Type) (k : IV A → List (IV A) → Option R), S_F77 N args k = none) ∨ ∃ (a1 : List UInt8), args = [.d (.str a1)] := by
  by_cases h : ∃ (a1 : List UInt8), args = [.d (.str a1)]
  · exact .inr h
  · refine .inl (fun N R k => ?_)
    unfold S_F77 SS_F77
    split
    · exact absurd ⟨_, rfl⟩ h
    · rfl
theorem sm_F77 (N : Nat) : Same (S_F77 N) (abody (E_F77 N) Tryz.f77 code_77 3 [] [.asis, .asis] N) := by
  intro args
  rcases v_F77 args with h | ⟨a1, rfl⟩
  · exact .inl (h N)
  · exact .inr (fun R k => (t_F77 N a1 R k).symm)
theorem fu_77 : Tryz.prog.funcs[77]? = some Tryz.f77 := by kernel_rfl
theorem bo_77 : Tryz.f77.body = some code_77 := by kernel_rfl
theorem fs_F77 (N : Nat) : FnSound Tryz.prog T 77 (S_F77 N) := fs_of (E_F77 N) rfl rfl (eo_F77 N) (ct_F77 N) mixed fu_77 bo_77 3 [] [.asis, .asis] N (cc_F77 N) (sm_F77 N)
theorem na_F77 (N : Nat) : NatSpec (S_F77 N) := na_of (E_F77 N) (ct_F77 N) Tryz.f77 code_77 3 [] [.asis, .asis] N (cc_F77 N) (sm_F77 N)
abbrev TF71 : Type 1 := List UInt8 → {R : Type} → (Bool → Option R) → Option R
def F71_ (g77 : TF77) (N : Nat) (a1 : List UInt8) {R : Type} (k0 : Bool → Option R) : Option R :=
  (g77 a1 (fun r2 r3 r4 r5 r6 r7 => k0 r7))
def F71 (N : Nat) : TF71 := @F71_ (@F77 N) N
def p_F71 (args : List (IV A)) : Bool := match args with | [.d (.str _)] => true | _ => false
def SS_F71 (g : TF71) : Spec A := fun args _ k => match args with | [.d (.str a1)] => g a1 (fun z0 => k (.d (.bool z0)) [.undef]) | _ => none
def S_F71 (N : Nat) : Spec A := SS_F71 (F71 N)
noncomputable def code_71 : Code := (Tryz.f71.body).getD .skip
def C_F71_ (g77 : TF77) : List (Nat × Spec A) := [(77, SS_F77 g77)]
def C_F71 (N : Nat) : List (Nat × Spec A) := C_F71_ (@F77 N)
noncomputable def E_F71_ (g77 : TF77) (N : Nat) : Env A := { P := Tryz.prog, T := T, C := fun f => (C_F71_ g77).lookup f, tg := fun d => ([(3, [0])].lookup d).getD [], seqH := fun _ => none, loopH := fun i => [].lookup i, exitH := fun i => [].lookup i, cutL := fun _ => none, mode := fun f i => [].contains (f, i), keyed := keyT, flat := flatT, pin := [] }
noncomputable def E_F71 (N : Nat) : Env A := E_F71_ (@F77 N) N
theorem tg_F71 (g77 : TF77) (N : Nat) (a1 : List UInt8) (R : Type) (k : IV A → List (IV A) → Option R) : abody (E_F71_ g77 N) Tryz.f71 code_71 1 [] [.asis] N [.d (.str a1)] k = SS_F71 (@F71_ g77 N) [.d (.str a1)] k := by kernel_rfl
theorem t_F71 (N : Nat) (a1 : List UInt8) (R : Type) (k : IV A → List (IV A) → Option R) : abody (E_F71 N) Tryz.f71 code_71 1 [] [.asis] N [.d (.str a1)] k = S_F71 N [.d (.str a1)] k := tg_F71 (@F77 N) N a1 R k
theorem en_71 : Enters Tryz.prog 71 := enters_of (fn := Tryz.f71) (by kernel_rfl) (by kernel_rfl) (by kernel_rfl)
theorem en_F71 : Enters Tryz.prog 71 := en_71
theorem tl_F71 (N : Nat) : TabL Tryz.prog T (C_F71 N) := (.cons (fs_F77 N) en_F77 .nil)
theorem nl_F71 (N : Nat) : NatL (C_F71 N) := (.cons (na_F77 N) .nil)
theorem ct_F71 (N : Nat) : NatTab (E_F71 N).C := tab_nat (l := C_F71 N) (nl_F71 N)
theorem eo_F71 (N : Nat) : EnvOk (E_F71 N) := ⟨tyOk Tryz.prog, tab_sound (l := C_F71 N) (tl_F71 N), flatOk, keysOk⟩
theorem ll_F71 : loopsOf code_71 = [] := by kernel_rfl
theorem fi_F71 (N : Nat) : FineL (E_F71 N) N [] := .nil
theorem cc_F71 (N : Nat) : CutsOk (E_F71 N) N code_71 := cuts_of (fun _ => rfl) code_71 (by rw [ll_F71]; exact fi_F71 N)
theorem v_F71 (args : List (IV A)) : (∀ (N : Nat) (R : Type) (k : IV A → List (IV A) → Option R), S_F71 N args k = none) ∨ ∃ (a1 : List UInt8), args = [.d (.str a1)] := by
  by_cases h : ∃ (a1 : List UInt8), args = [.d (.str a1)]
  · exact .inr h
  · refine .inl (fun N R k => ?_)
    unfold S_F71 SS_F71
    split
    · exact absurd ⟨_, rfl⟩ h
    · rfl
theorem sm_F71 (N : Nat) : Same (S_F71 N) (abody (E_F71 N) Tryz.f71 code_71 1 [] [.asis] N) := by
  intro args
  rcases v_F71 args with h | ⟨a1, rfl⟩
  · exact .inl (h N)
  · exact .inr (fun R k => (t_F71 N a1 R k).symm)
theorem fu_71 : Tryz.prog.funcs[71]? = some Tryz.f71 := by kernel_rfl
theorem bo_71 : Tryz.f71.body = some code_71 := by kernel_rfl
theorem fs_F71 (N : Nat) : FnSound Tryz.prog T 71 (S_F71 N) := fs_of (E_F71 N) rfl rfl (eo_F71 N) (ct_F71 N) mixed fu_71 bo_71 1 [] [.asis] N (cc_F71 N) (sm_F71 N)
theorem na_F71 (N : Nat) : NatSpec (S_F71 N) := na_of (E_F71 N) (ct_F71 N) Tryz.f71 code_71 1 [] [.asis] N (cc_F71 N) (sm_F71 N)
abbrev TF36 : Type 1 := Int → Int → List UInt8 → List UInt8 → Int → Int → List UInt8 → List UInt8 → {R : Type} → (Int → Option R) → Option R
def F36_ (g47 : TF47) (g69 : TF69) (g70 : TF70) (g71 : TF71) (N : Nat) (a1 : Int) (a2 : Int) (a3 : List UInt8) (a4 : List UInt8) (a5 : Int) (a6 : Int) (a7 : List UInt8) (a8 : List UInt8) {R : Type} (k0 : Int → Option R) : Option R :=
  (g69 a1 (fun r9 => (bif (!r9) then k0 1 else (g47 a2 1 3 (fun r10 => (bif (!r10) then k0 4 else (g70 a3 (fun r11 => (bif (!r11) then k0 5 else (g71 a4 (fun r12 => (bif (!r12) then k0 3 else (g47 a5 0 99999 (fun r13 => (bif (!r13) then k0 1 else (g47 a6 0 99999 (fun r14 => (bif (!r14) then k0 1 else (bif (!(a7 == [])) then (g70 a7 (fun r15 => (bif (!r15) then k0 5 else (bif (!(a8 == [])) then (g70 a8 (fun r16 => (bif (!r16) then k0 5 else k0 0))) else k0 0)))) else (bif (!(a8 == [])) then (g70 a8 (fun r17 => (bif (!r17) then k0 5 else k0 0))) else k0 0))))))))))))))))))))
def F36 (N : Nat) : TF36 := @F36_ (@F47 N) (@F69 N) (@F70 N) (@F71 N) N
def p_F36 (args : List (IV A)) : Bool := match args with | [.agg [.d (.int .i64 _), .d (.int .i64 _), .d (.str _), .d (.str _), .d (.int .i64 _), .d (.int .i64 _), .d (.str _), .d (.str _)]] => true | _ => false
def SS_F36 (g : TF36) : Spec A := fun args _ k => match args with | [.agg [.d (.int .i64 a1), .d (.int .i64 a2), .d (.str a3), .d (.str a4), .d (.int .i64 a5), .d (.int .i64 a6), .d (.str a7), .d (.str a8)]] => g a1 a2 a3 a4 a5 a6 a7 a8 (fun z0 => k (.d (.int .i64 z0)) [.undef]) | _ => none
def S_F36 (N : Nat) : Spec A := SS_F36 (F36 N)
noncomputable def code_36 : Code := (Tryz.f36.body).getD .skip
def C_F36_ (g47 : TF47) (g69 : TF69) (g70 : TF70) (g71 : TF71) : List (Nat × Spec A) := [(47, SS_F47 g47), (69, SS_F69 g69), (70, SS_F70 g70), (71, SS_F71 g71)]
def C_F36 (N : Nat) : List (Nat × Spec A) := C_F36_ (@F47 N) (@F69 N) (@F70 N) (@F71 N)
noncomputable def E_F36_ (g47 : TF47) (g69 : TF69) (g70 : TF70) (g71 : TF71) (N : Nat) : Env A := { P := Tryz.prog, T := T, C := fun f => (C_F36_ g47 g69 g70 g71).lookup f, tg := fun d => ([(1, [0])].lookup d).getD [], seqH := fun _ => none, loopH := fun i => [].lookup i, exitH := fun i => [].lookup i, cutL := fun _ => none, mode := fun f i => [].contains (f, i), keyed := keyT, flat := flatT, pin := [] }
noncomputable def E_F36 (N : Nat) : Env A := E_F36_ (@F47 N) (@F69 N) (@F70 N) (@F71 N) N
theorem tg_F36 (g47 : TF47) (g69 : TF69) (g70 : TF70) (g71 : TF71) (N : Nat) (a1 : Int) (a2 : Int) (a3 : List UInt8) (a4 : List UInt8) (a5 : Int) (a6 : Int) (a7 : List UInt8) (a8 : List UInt8) (R : Type) (k : IV A → List (IV A) → Option R) : abody (E_F36_ g47 g69 g70 g71 N) Tryz.f36 code_36 1 [] [.asis] N [.agg [.d (.int .i64 a1), .d (.int .i64 a2), .d (.str a3), .d (.str a4), .d (.int .i64 a5), .d (.int .i64 a6), .d (.str a7), .d (.str a8)]] k = SS_F36 (@F36_ g47 g69 g70 g71 N) [.agg [.d (.int .i64 a1), .d (.int .i64 a2), .d (.str a3), .d (.str a4), .d (.int .i64 a5), .d (.int .i64 a6), .d (.str a7), .d (.str a8)]] k := by kernel_rfl
theorem t_F36 (N : Nat) (a1 : Int) (a2 : Int) (a3 : List UInt8) (a4 : List UInt8) (a5 : Int) (a6 : Int) (a7 : List UInt8) (a8 : List UInt8) (R : Type) (k : IV A → List (IV A) → Option R) : abody (E_F36 N) Tryz.f36 code_36 1 [] [.asis] N [.agg [.d (.int .i64 a1), .d (.int .i64 a2), .d (.str a3), .d (.str a4), .d (.int .i64 a5), .d (.int .i64 a6), .d (.str a7), .d (.str a8)]] k = S_F36 N [.agg [.d (.int .i64 a1), .d (.int .i64 a2), .d (.str a3), .d (.str a4), .d (.int .i64 a5), .d (.int .i64 a6), .d (.str a7), .d (.str a8)]] k := tg_F36 (@F47 N) (@F69 N) (@F70 N) (@F71 N) N a1 a2 a3 a4 a5 a6 a7 a8 R k
theorem en_36 : Enters Tryz.prog 36 := enters_of (fn := Tryz.f36) (by kernel_rfl) (by kernel_rfl) (by kernel_rfl)
theorem en_F36 : Enters Tryz.prog 36 := en_36
theorem tl_F36 (N : Nat) : TabL Tryz.prog T (C_F36 N) := (.cons (fs_F47 N) en_F47 (.cons (fs_F69 N) en_F69 (.cons (fs_F70 N) en_F70 (.cons (fs_F71 N) en_F71 .nil))))
theorem nl_F36 (N : Nat) : NatL (C_F36 N) := (.cons (na_F47 N) (.cons (na_F69 N) (.cons (na_F70 N) (.cons (na_F71 N) .nil))))
theorem ct_F36 (N : Nat) : NatTab (E_F36 N).C := tab_nat (l := C_F36 N) (nl_F36 N)
theorem eo_F36 (N : Nat) : EnvOk (E_F36 N) := ⟨tyOk Tryz.prog, tab_sound (l := C_F36 N) (tl_F36 N), flatOk, keysOk⟩
theorem ll_F36 : loopsOf code_36 = [] := by kernel_rfl
theorem fi_F36 (N : Nat) : FineL (E_F36 N) N [] := .nil
theorem cc_F36 (N : Nat) : CutsOk (E_F36 N) N code_36 := cuts_of (fun _ => rfl) code_36 (by rw [ll_F36]; exact fi_F36 N)
theorem v_F36 (args : List (IV A)) : (∀ (N : Nat) (R : Type) (k : IV A → List (IV A) → Option R), S_F36 N args k = none) ∨ ∃ (a1 : Int) (a2 : Int) (a3 : List UInt8) (a4 : List UInt8) (a5 : Int) (a6 : Int) (a7 : List UInt8) (a8 : List UInt8), args = [.agg [.d (.int .i64 a1), .d (.int .i64 a2), .d (.str a3), .d (.str a4), .d (.int .i64 a5), .d (.int .i64 a6), .d (.str a7), .d (.str a8)]] := by
  by_cases h : ∃ (a1 : Int) (a2 : Int) (a3 : List UInt8) (a4 : List UInt8) (a5 : Int) (a6 : Int) (a7 : List UInt8) (a8 : List UInt8), args = [.agg [.d (.int .i64 a1), .d (.int .i64 a2), .d (.str a3), .d (.str a4), .d (.int .i64 a5), .d (.int .i64 a6), .d (.str a7), .d (.str a8)]]
  · exact .inr h
  · refine .inl (fun N R k => ?_)
    unfold S_F36 SS_F36
    split
    · exact absurd ⟨_, _, _, _, _, _, _, _, rfl⟩ h
    · rfl
theorem sm_F36 (N : Nat) : Same (S_F36 N) (abody (E_F36 N) Tryz.f36 code_36 1 [] [.asis] N) := by
  intro args
  rcases v_F36 args with h | ⟨a1, a2, a3, a4, a5, a6, a7, a8, rfl⟩
  · exact .inl (h N)
  · exact .inr (fun R k => (t_F36 N a1 a2 a3 a4 a5 a6 a7 a8 R k).symm)
theorem fu_36 : Tryz.prog.funcs[36]? = some Tryz.f36 := by kernel_rfl
theorem bo_36 : Tryz.f36.body = some code_36 := by kernel_rfl
theorem fs_F36 (N : Nat) : FnSound Tryz.prog T 36 (S_F36 N) := fs_of (E_F36 N) rfl rfl (eo_F36 N) (ct_F36 N) mixed fu_36 bo_36 1 [] [.asis] N (cc_F36 N) (sm_F36 N)
theorem na_F36 (N : Nat) : NatSpec (S_F36 N) := na_of (E_F36 N) (ct_F36 N) Tryz.f36 code_36 1 [] [.asis] N (cc_F36 N) (sm_F36 N)
def L14_4 (g36 : TF36) (g39 : TF39) : Nat → Nat → List (G_Contact) → List (G_Contact) → Int → Int → {R : Type} → (Int → Option R) → (Option R) → Option R
  | _, 0, _, _, _, _, _, _, _ => none
  | N, n + 1, v2, v3, v4, v5, _, e0, e1 => (bif (decide (v5 < v4)) then (bif (decide (0 ≤ v5)) then (match v3[(v5 : Int).toNat]? with | some x10 => (g36 x10.f_At x10.f_Mode x10.f_Band x10.f_Call x10.f_Sent x10.f_Heard x10.f_Gave x10.f_Got (fun r11 => (bif (r11 != 0) then e0 r11 else (bif (decide (v5 > 0)) then (bif (decide (0 ≤ (IntKind.i64.wrap (v5 - 1)))) then (match v2[((IntKind.i64.wrap (v5 - 1)) : Int).toNat]? with | some x12 => (g39 x12.f_At x12.f_Mode x12.f_Band x12.f_Call x12.f_Sent x12.f_Heard x12.f_Gave x12.f_Got x10.f_At x10.f_Mode x10.f_Band x10.f_Call x10.f_Sent x10.f_Heard x10.f_Gave x10.f_Got (fun r13 => (bif (decide (r13 ≥ 0)) then e0 7 else L14_4 g36 g39 N n v2 v3 v4 ((IntKind.i64.wrap (v5 + 1))) e0 e1))) | none => none) else none) else L14_4 g36 g39 N n v2 v3 v4 ((IntKind.i64.wrap (v5 + 1))) e0 e1)))) | none => none) else none) else e1)
abbrev TF14 : Type 1 := List (G_Contact) → {R : Type} → (Int → Option R) → Option R
def F14_ (g36 : TF36) (g39 : TF39) (N : Nat) (a1 : List (G_Contact)) {R : Type} (k0 : Int → Option R) : Option R :=
  (bif (decide ((a1.length : Int) > 2000)) then k0 2 else (L14_4 g36 g39 N N a1 a1 (a1.length : Int) 0 (fun e14 => k0 e14) (k0 0)))
def F14 (N : Nat) : TF14 := @F14_ (@F36 N) (@F39 N) N
def p_F14 (args : List (IV A)) : Bool := match args with | [.d (.sl 58 _)] => true | _ => false
def SS_F14 (g : TF14) : Spec A := fun args _ k => match args with | [.d (.sl 58 a1)] => g a1 (fun z0 => k (.d (.int .i64 z0)) [.undef]) | _ => none
def S_F14 (N : Nat) : Spec A := SS_F14 (F14 N)
def sh_L14_4 : SSt := { fr := sparse .undef 34 [(0, .sl 58), (9, .sl 58), (10, .int .i64), (11, .int .i64)], st := sparse .none 1 [] }
def LP_L14_4 (g36 : TF36) (g39 : TF39) (N n : Nat) (ps : List (Pv A)) {R : Type} (K : Ex → St A → Option R) : Option R := match ps with | [.d (.sl 58 p0), .d (.sl 58 p1), .d (.int .i64 p2), .d (.int .i64 p3)] => L14_4 g36 g39 N n p0 p1 p2 p3 (fun z0 => K .ret { fr := sparse .undef 34 [(2, .d (.int .i64 z0))], st := sparse none 1 [] }) (K (.exit 0) { fr := sparse .undef 34 [], st := sparse none 1 [] }) | _ => none
def LS_L14_4 (g36 : TF36) (g39 : TF39) (N n : Nat) : Piece A := fun S _ K => match decSt sh_L14_4 S with | some ps => LP_L14_4 g36 g39 N n ps K | none => none
noncomputable def code_14 : Code := (Tryz.f14.body).getD .skip
def C_F14_ (g36 : TF36) (g39 : TF39) : List (Nat × Spec A) := [(36, SS_F36 g36), (39, SS_F39 g39)]
def C_F14 (N : Nat) : List (Nat × Spec A) := C_F14_ (@F36 N) (@F39 N)
noncomputable def E_F14_ (g36 : TF36) (g39 : TF39) (N : Nat) : Env A := { P := Tryz.prog, T := T, C := fun f => (C_F14_ g36 g39).lookup f, tg := fun d => ([(4, [0])].lookup d).getD [], seqH := fun _ => none, loopH := fun i => [(4, ({ keep := [0, 9, 10, 11], canon := [], stay := [] } : Hint))].lookup i, exitH := fun i => [(4, ({ keep := [2], canon := [], stay := [] } : Hint))].lookup i, cutL := fun i => [(4, LS_L14_4 g36 g39 N N)].lookup i, mode := fun f i => [].contains (f, i), keyed := keyT, flat := flatT, pin := [] }
noncomputable def E_F14 (N : Nat) : Env A := E_F14_ (@F36 N) (@F39 N) N
theorem tg_F14 (g36 : TF36) (g39 : TF39) (N : Nat) (a1 : List (G_Contact)) (R : Type) (k : IV A → List (IV A) → Option R) : abody (E_F14_ g36 g39 N) Tryz.f14 code_14 1 [] [.asis] N [.d (.sl 58 a1)] k = SS_F14 (@F14_ g36 g39 N) [.d (.sl 58 a1)] k := by kernel_rfl
theorem t_F14 (N : Nat) (a1 : List (G_Contact)) (R : Type) (k : IV A → List (IV A) → Option R) : abody (E_F14 N) Tryz.f14 code_14 1 [] [.asis] N [.d (.sl 58 a1)] k = S_F14 N [.d (.sl 58 a1)] k := tg_F14 (@F36 N) (@F39 N) N a1 R k
noncomputable def cb_L14_4 : Code := sub [1, 1, 0, 1, 0, 0] code_14
noncomputable def bd_L14_4 (g36 : TF36) (g39 : TF39) (N : Nat) : Piece A := around (fun S _ K => aexec (E_F14_ g36 g39 N) N cb_L14_4 S K) ((firstReg cb_L14_4).bind (E_F14_ g36 g39 N).loopH) ((firstReg cb_L14_4).bind (E_F14_ g36 g39 N).exitH)
theorem b_L14_4 (g36 : TF36) (g39 : TF39) (N n : Nat) (p0 : List (G_Contact)) (p1 : List (G_Contact)) (p2 : Int) (p3 : Int) (R : Type) (K : Ex → St A → Option R) : bd_L14_4 g36 g39 N { fr := sparse .undef 34 [(0, .d (.sl 58 p0)), (9, .d (.sl 58 p1)), (10, .d (.int .i64 p2)), (11, .d (.int .i64 p3))], st := sparse none 1 [] } (fun e S' => match e with | .normal => LS_L14_4 g36 g39 N n S' K | e => K e S') = LP_L14_4 g36 g39 N (n + 1) [.d (.sl 58 p0), .d (.sl 58 p1), .d (.int .i64 p2), .d (.int .i64 p3)] K := by kernel_rfl
theorem m_L14_4 (g36 : TF36) (g39 : TF39) (ps : List (Pv A)) : (∀ (N n : Nat) (R : Type) (K : Ex → St A → Option R), LP_L14_4 g36 g39 N n ps K = none) ∨ ∃ (p0 : List (G_Contact)) (p1 : List (G_Contact)) (p2 : Int) (p3 : Int), ps = [.d (.sl 58 p0), .d (.sl 58 p1), .d (.int .i64 p2), .d (.int .i64 p3)] := by
  by_cases h : ∃ (p0 : List (G_Contact)) (p1 : List (G_Contact)) (p2 : Int) (p3 : Int), ps = [.d (.sl 58 p0), .d (.sl 58 p1), .d (.int .i64 p2), .d (.int .i64 p3)]
  · exact .inr h
  · refine .inl (fun N n R K => ?_)
    unfold LP_L14_4
    split
    · exact absurd ⟨_, _, _, _, rfl⟩ h
    · rfl
theorem s_L14_4 (g36 : TF36) (g39 : TF39) (N n : Nat) (S : St A) : (∀ (R : Type) (K : Ex → St A → Option R), LS_L14_4 g36 g39 N (n + 1) S K = none) ∨ ∀ (R : Type) (K : Ex → St A → Option R), LS_L14_4 g36 g39 N (n + 1) S K = bd_L14_4 g36 g39 N S (fun e S' => match e with | .normal => LS_L14_4 g36 g39 N n S' K | e => K e S') := by
  cases hd : decSt sh_L14_4 S with
  | none => exact .inl (fun R K => by unfold LS_L14_4; rw [hd])
  | some ps =>
    have he := decSt_enc hd
    rcases m_L14_4 g36 g39 ps with h | ⟨p0, p1, p2, p3, rfl⟩
    · exact .inl (fun R K => by unfold LS_L14_4; rw [hd]; exact h N (n + 1) R K)
    · have hS : encSt (A := A) sh_L14_4 [.d (.sl 58 p0), .d (.sl 58 p1), .d (.int .i64 p2), .d (.int .i64 p3)] = some { fr := sparse .undef 34 [(0, .d (.sl 58 p0)), (9, .d (.sl 58 p1)), (10, .d (.int .i64 p2)), (11, .d (.int .i64 p3))], st := sparse none 1 [] } := by kernel_rfl
      rw [hS] at he
      obtain rfl := Option.some.inj he
      refine .inr (fun R K => ?_)
      rw [b_L14_4]
      unfold LS_L14_4
      rw [hd]
theorem z_L14_4 (g36 : TF36) (g39 : TF39) (N : Nat) (R : Type) (S : St A) (K : Ex → St A → Option R) : LS_L14_4 g36 g39 N 0 S K = none := by
  unfold LS_L14_4
  cases decSt sh_L14_4 S with
  | none => rfl
  | some ps =>
    simp only
    unfold LP_L14_4
    split <;> (try unfold L14_4) <;> rfl
theorem en_14 : Enters Tryz.prog 14 := enters_of (fn := Tryz.f14) (by kernel_rfl) (by kernel_rfl) (by kernel_rfl)
theorem en_F14 : Enters Tryz.prog 14 := en_14
theorem tl_F14 (N : Nat) : TabL Tryz.prog T (C_F14 N) := (.cons (fs_F36 N) en_F36 (.cons (fs_F39 N) en_F39 .nil))
theorem nl_F14 (N : Nat) : NatL (C_F14 N) := (.cons (na_F36 N) (.cons (na_F39 N) .nil))
theorem ct_F14 (N : Nat) : NatTab (E_F14 N).C := tab_nat (l := C_F14 N) (nl_F14 N)
theorem eo_F14 (N : Nat) : EnvOk (E_F14 N) := ⟨tyOk Tryz.prog, tab_sound (l := C_F14 N) (tl_F14 N), flatOk, keysOk⟩
theorem ll_L14_4 : loopsOf cb_L14_4 = [] := by kernel_rfl
theorem fi_L14_4 (N : Nat) : FineL (E_F14 N) N [] := .nil
theorem cc_L14_4 (N : Nat) : CutsOk (E_F14 N) N cb_L14_4 := cuts_of (fun _ => rfl) cb_L14_4 (by rw [ll_L14_4]; exact fi_L14_4 N)
theorem cg_L14_4 (g36 : TF36) (g39 : TF39) (N : Nat) : (firstReg cb_L14_4).bind (E_F14_ g36 g39 N).cutL = some (LS_L14_4 g36 g39 N N) := by kernel_rfl
theorem ce_L14_4 (N : Nat) : (firstReg cb_L14_4).bind (E_F14 N).cutL = some (LS_L14_4 (@F36 N) (@F39 N) N N) := cg_L14_4 (@F36 N) (@F39 N) N
theorem lf_L14_4 (N : Nat) : LoopFine (E_F14 N) N cb_L14_4 := fine_of (LS_L14_4 (@F36 N) (@F39 N) N) (ce_L14_4 N) (ct_F14 N) (cc_L14_4 N) (z_L14_4 (@F36 N) (@F39 N) N) (s_L14_4 (@F36 N) (@F39 N) N)
theorem ll_F14 : loopsOf code_14 = [cb_L14_4] := by kernel_rfl
theorem fi_F14 (N : Nat) : FineL (E_F14 N) N [cb_L14_4] := (.cons (lf_L14_4 N) .nil)
theorem cc_F14 (N : Nat) : CutsOk (E_F14 N) N code_14 := cuts_of (fun _ => rfl) code_14 (by rw [ll_F14]; exact fi_F14 N)
theorem v_F14 (args : List (IV A)) : (∀ (N : Nat) (R : Type) (k : IV A → List (IV A) → Option R), S_F14 N args k = none) ∨ ∃ (a1 : List (G_Contact)), args = [.d (.sl 58 a1)] := by
  by_cases h : ∃ (a1 : List (G_Contact)), args = [.d (.sl 58 a1)]
  · exact .inr h
  · refine .inl (fun N R k => ?_)
    unfold S_F14 SS_F14
    split
    · exact absurd ⟨_, rfl⟩ h
    · rfl
theorem sm_F14 (N : Nat) : Same (S_F14 N) (abody (E_F14 N) Tryz.f14 code_14 1 [] [.asis] N) := by
  intro args
  rcases v_F14 args with h | ⟨a1, rfl⟩
  · exact .inl (h N)
  · exact .inr (fun R k => (t_F14 N a1 R k).symm)
theorem fu_14 : Tryz.prog.funcs[14]? = some Tryz.f14 := by kernel_rfl
theorem bo_14 : Tryz.f14.body = some code_14 := by kernel_rfl
theorem fs_F14 (N : Nat) : FnSound Tryz.prog T 14 (S_F14 N) := fs_of (E_F14 N) rfl rfl (eo_F14 N) (ct_F14 N) mixed fu_14 bo_14 1 [] [.asis] N (cc_F14 N) (sm_F14 N)
theorem na_F14 (N : Nat) : NatSpec (S_F14 N) := na_of (E_F14 N) (ct_F14 N) Tryz.f14 code_14 1 [] [.asis] N (cc_F14 N) (sm_F14 N)
abbrev TF16 : Type 1 := Int → Int → {R : Type} → (Int → Option R) → Option R
def F16_ (g47 : TF47) (N : Nat) (a1 : Int) (a2 : Int) {R : Type} (k0 : Int → Option R) : Option R :=
  (g47 a1 0 a2 (fun r3 => (bif (!r3) then k0 1 else (bif (decide (a2 > 345686400000)) then k0 1 else k0 0))))
def F16 (N : Nat) : TF16 := @F16_ (@F47 N) N
def p_F16 (args : List (IV A)) : Bool := match args with | [.agg [.d (.int .i64 _), .d (.int .i64 _)]] => true | _ => false
def SS_F16 (g : TF16) : Spec A := fun args _ k => match args with | [.agg [.d (.int .i64 a1), .d (.int .i64 a2)]] => g a1 a2 (fun z0 => k (.d (.int .i64 z0)) [.undef]) | _ => none
def S_F16 (N : Nat) : Spec A := SS_F16 (F16 N)
noncomputable def code_16 : Code := (Tryz.f16.body).getD .skip
def C_F16_ (g47 : TF47) : List (Nat × Spec A) := [(47, SS_F47 g47)]
def C_F16 (N : Nat) : List (Nat × Spec A) := C_F16_ (@F47 N)
noncomputable def E_F16_ (g47 : TF47) (N : Nat) : Env A := { P := Tryz.prog, T := T, C := fun f => (C_F16_ g47).lookup f, tg := fun d => ([(1, [0])].lookup d).getD [], seqH := fun _ => none, loopH := fun i => [].lookup i, exitH := fun i => [].lookup i, cutL := fun _ => none, mode := fun f i => [].contains (f, i), keyed := keyT, flat := flatT, pin := [] }
noncomputable def E_F16 (N : Nat) : Env A := E_F16_ (@F47 N) N
theorem tg_F16 (g47 : TF47) (N : Nat) (a1 : Int) (a2 : Int) (R : Type) (k : IV A → List (IV A) → Option R) : abody (E_F16_ g47 N) Tryz.f16 code_16 1 [] [.asis] N [.agg [.d (.int .i64 a1), .d (.int .i64 a2)]] k = SS_F16 (@F16_ g47 N) [.agg [.d (.int .i64 a1), .d (.int .i64 a2)]] k := by kernel_rfl
theorem t_F16 (N : Nat) (a1 : Int) (a2 : Int) (R : Type) (k : IV A → List (IV A) → Option R) : abody (E_F16 N) Tryz.f16 code_16 1 [] [.asis] N [.agg [.d (.int .i64 a1), .d (.int .i64 a2)]] k = S_F16 N [.agg [.d (.int .i64 a1), .d (.int .i64 a2)]] k := tg_F16 (@F47 N) N a1 a2 R k
theorem en_16 : Enters Tryz.prog 16 := enters_of (fn := Tryz.f16) (by kernel_rfl) (by kernel_rfl) (by kernel_rfl)
theorem en_F16 : Enters Tryz.prog 16 := en_16
theorem tl_F16 (N : Nat) : TabL Tryz.prog T (C_F16 N) := (.cons (fs_F47 N) en_F47 .nil)
theorem nl_F16 (N : Nat) : NatL (C_F16 N) := (.cons (na_F47 N) .nil)
theorem ct_F16 (N : Nat) : NatTab (E_F16 N).C := tab_nat (l := C_F16 N) (nl_F16 N)
theorem eo_F16 (N : Nat) : EnvOk (E_F16 N) := ⟨tyOk Tryz.prog, tab_sound (l := C_F16 N) (tl_F16 N), flatOk, keysOk⟩
theorem ll_F16 : loopsOf code_16 = [] := by kernel_rfl
theorem fi_F16 (N : Nat) : FineL (E_F16 N) N [] := .nil
theorem cc_F16 (N : Nat) : CutsOk (E_F16 N) N code_16 := cuts_of (fun _ => rfl) code_16 (by rw [ll_F16]; exact fi_F16 N)
theorem v_F16 (args : List (IV A)) : (∀ (N : Nat) (R : Type) (k : IV A → List (IV A) → Option R), S_F16 N args k = none) ∨ ∃ (a1 : Int) (a2 : Int), args = [.agg [.d (.int .i64 a1), .d (.int .i64 a2)]] := by
  by_cases h : ∃ (a1 : Int) (a2 : Int), args = [.agg [.d (.int .i64 a1), .d (.int .i64 a2)]]
  · exact .inr h
  · refine .inl (fun N R k => ?_)
    unfold S_F16 SS_F16
    split
    · exact absurd ⟨_, _, rfl⟩ h
    · rfl
theorem sm_F16 (N : Nat) : Same (S_F16 N) (abody (E_F16 N) Tryz.f16 code_16 1 [] [.asis] N) := by
  intro args
  rcases v_F16 args with h | ⟨a1, a2, rfl⟩
  · exact .inl (h N)
  · exact .inr (fun R k => (t_F16 N a1 a2 R k).symm)
theorem fu_16 : Tryz.prog.funcs[16]? = some Tryz.f16 := by kernel_rfl
theorem bo_16 : Tryz.f16.body = some code_16 := by kernel_rfl
theorem fs_F16 (N : Nat) : FnSound Tryz.prog T 16 (S_F16 N) := fs_of (E_F16 N) rfl rfl (eo_F16 N) (ct_F16 N) mixed fu_16 bo_16 1 [] [.asis] N (cc_F16 N) (sm_F16 N)
theorem na_F16 (N : Nat) : NatSpec (S_F16 N) := na_of (E_F16 N) (ct_F16 N) Tryz.f16 code_16 1 [] [.asis] N (cc_F16 N) (sm_F16 N)
abbrev TF17 : Type 1 := Bool → Int → {R : Type} → (Int → Option R) → Option R
def F17_ (N : Nat) (a1 : Bool) (a2 : Int) {R : Type} (k0 : Int → Option R) : Option R :=
  (bif a1 then k0 a2 else k0 0)
def F17 (N : Nat) : TF17 := @F17_ N
def p_F17 (args : List (IV A)) : Bool := match args with | [.d (.bool _), .d (.int .i64 _)] => true | _ => false
def SS_F17 (g : TF17) : Spec A := fun args _ k => match args with | [.d (.bool a1), .d (.int .i64 a2)] => g a1 a2 (fun z0 => k (.d (.int .i64 z0)) [.undef, .undef]) | _ => none
def S_F17 (N : Nat) : Spec A := SS_F17 (F17 N)
noncomputable def code_17 : Code := (Tryz.f17.body).getD .skip
def C_F17_ : List (Nat × Spec A) := []
def C_F17 (N : Nat) : List (Nat × Spec A) := C_F17_
noncomputable def E_F17_ (N : Nat) : Env A := { P := Tryz.prog, T := T, C := fun f => (C_F17_).lookup f, tg := fun d => ([].lookup d).getD [], seqH := fun _ => none, loopH := fun i => [].lookup i, exitH := fun i => [].lookup i, cutL := fun _ => none, mode := fun f i => [].contains (f, i), keyed := keyT, flat := flatT, pin := [] }
noncomputable def E_F17 (N : Nat) : Env A := E_F17_ N
theorem tg_F17 (N : Nat) (a1 : Bool) (a2 : Int) (R : Type) (k : IV A → List (IV A) → Option R) : abody (E_F17_ N) Tryz.f17 code_17 0 [] [.asis] N [.d (.bool a1), .d (.int .i64 a2)] k = SS_F17 (@F17_ N) [.d (.bool a1), .d (.int .i64 a2)] k := by kernel_rfl
theorem t_F17 (N : Nat) (a1 : Bool) (a2 : Int) (R : Type) (k : IV A → List (IV A) → Option R) : abody (E_F17 N) Tryz.f17 code_17 0 [] [.asis] N [.d (.bool a1), .d (.int .i64 a2)] k = S_F17 N [.d (.bool a1), .d (.int .i64 a2)] k := tg_F17 N a1 a2 R k
theorem en_17 : Enters Tryz.prog 17 := enters_of (fn := Tryz.f17) (by kernel_rfl) (by kernel_rfl) (by kernel_rfl)
theorem en_F17 : Enters Tryz.prog 17 := en_17
theorem tl_F17 (N : Nat) : TabL Tryz.prog T (C_F17 N) := .nil
theorem nl_F17 (N : Nat) : NatL (C_F17 N) := .nil
theorem ct_F17 (N : Nat) : NatTab (E_F17 N).C := tab_nat (l := C_F17 N) (nl_F17 N)
theorem eo_F17 (N : Nat) : EnvOk (E_F17 N) := ⟨tyOk Tryz.prog, tab_sound (l := C_F17 N) (tl_F17 N), flatOk, keysOk⟩
theorem ll_F17 : loopsOf code_17 = [] := by kernel_rfl
theorem fi_F17 (N : Nat) : FineL (E_F17 N) N [] := .nil
theorem cc_F17 (N : Nat) : CutsOk (E_F17 N) N code_17 := cuts_of (fun _ => rfl) code_17 (by rw [ll_F17]; exact fi_F17 N)
theorem v_F17 (args : List (IV A)) : (∀ (N : Nat) (R : Type) (k : IV A → List (IV A) → Option R), S_F17 N args k = none) ∨ ∃ (a1 : Bool) (a2 : Int), args = [.d (.bool a1), .d (.int .i64 a2)] := by
  by_cases h : ∃ (a1 : Bool) (a2 : Int), args = [.d (.bool a1), .d (.int .i64 a2)]
  · exact .inr h
  · refine .inl (fun N R k => ?_)
    unfold S_F17 SS_F17
    split
    · exact absurd ⟨_, _, rfl⟩ h
    · rfl
theorem sm_F17 (N : Nat) : Same (S_F17 N) (abody (E_F17 N) Tryz.f17 code_17 0 [] [.asis] N) := by
  intro args
  rcases v_F17 args with h | ⟨a1, a2, rfl⟩
  · exact .inl (h N)
  · exact .inr (fun R k => (t_F17 N a1 a2 R k).symm)
theorem fu_17 : Tryz.prog.funcs[17]? = some Tryz.f17 := by kernel_rfl
theorem bo_17 : Tryz.f17.body = some code_17 := by kernel_rfl
theorem fs_F17 (N : Nat) : FnSound Tryz.prog T 17 (S_F17 N) := fs_of (E_F17 N) rfl rfl (eo_F17 N) (ct_F17 N) mixed fu_17 bo_17 0 [] [.asis] N (cc_F17 N) (sm_F17 N)
theorem na_F17 (N : Nat) : NatSpec (S_F17 N) := na_of (E_F17 N) (ct_F17 N) Tryz.f17 code_17 0 [] [.asis] N (cc_F17 N) (sm_F17 N)
end Go.Am
