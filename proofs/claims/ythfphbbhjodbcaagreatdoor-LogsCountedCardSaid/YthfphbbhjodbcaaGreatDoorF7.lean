/- The functions of the program as Lean functions, each shown to be what the code computes, part 7. No condition: lemmas for the claim. -/
import Derived.Test.YthfphbbhjodbcaaGreatDoorF0
import Derived.Test.YthfphbbhjodbcaaGreatDoorFSh
import Derived.Test.YthfphbbhjodbcaaGreatDoorF3
import Derived.Test.YthfphbbhjodbcaaGreatDoorF6
set_option linter.unusedVariables false
set_option maxRecDepth 100000
namespace Go.Am
open Go Go.Proofs
abbrev TF44 : Type 1 := Int → Int → {R : Type} → (Bool → Option R) → Option R
def F44_ (g42 : TF42) (N : Nat) (a1 : Int) (a2 : Int) {R : Type} (k0 : Bool → Option R) : Option R :=
  (g42 a1 0 a2 (fun r3 => (bif (!r3) then k0 ((decide (a2 ≤ 345686400000))) else k0 false)))
def F44 (N : Nat) : TF44 := @F44_ (@F42 N) N
def p_F44 (args : List (IV A)) : Bool := match args with | [.agg [.d (.int .i64 _), .d (.int .i64 _)]] => true | _ => false
def SS_F44 (g : TF44) : Spec A := fun args _ k => match args with | [.agg [.d (.int .i64 a1), .d (.int .i64 a2)]] => g a1 a2 (fun z0 => k (.d (.bool z0)) [.undef]) | _ => none
def S_F44 (N : Nat) : Spec A := SS_F44 (F44 N)
noncomputable def code_44 : Code := (Tryz.f44.body).getD .skip
def C_F44_ (g42 : TF42) : List (Nat × Spec A) := [(42, SS_F42 g42)]
def C_F44 (N : Nat) : List (Nat × Spec A) := C_F44_ (@F42 N)
noncomputable def E_F44_ (g42 : TF42) (N : Nat) : Env A := { P := Tryz.prog, T := T, C := fun f => (C_F44_ g42).lookup f, tg := fun d => ([(1, [0])].lookup d).getD [], seqH := fun _ => none, loopH := fun i => [].lookup i, exitH := fun i => [].lookup i, cutL := fun _ => none, mode := fun f i => [].contains (f, i), keyed := keyT, flat := flatT, pin := [] }
noncomputable def E_F44 (N : Nat) : Env A := E_F44_ (@F42 N) N
theorem tg_F44 (g42 : TF42) (N : Nat) (a1 : Int) (a2 : Int) (R : Type) (k : IV A → List (IV A) → Option R) : abody (E_F44_ g42 N) Tryz.f44 code_44 1 [] [.asis] N [.agg [.d (.int .i64 a1), .d (.int .i64 a2)]] k = SS_F44 (@F44_ g42 N) [.agg [.d (.int .i64 a1), .d (.int .i64 a2)]] k := by kernel_rfl
theorem t_F44 (N : Nat) (a1 : Int) (a2 : Int) (R : Type) (k : IV A → List (IV A) → Option R) : abody (E_F44 N) Tryz.f44 code_44 1 [] [.asis] N [.agg [.d (.int .i64 a1), .d (.int .i64 a2)]] k = S_F44 N [.agg [.d (.int .i64 a1), .d (.int .i64 a2)]] k := tg_F44 (@F42 N) N a1 a2 R k
theorem en_44 : Enters Tryz.prog 44 := enters_of (fn := Tryz.f44) (by kernel_rfl) (by kernel_rfl) (by kernel_rfl)
theorem en_F44 : Enters Tryz.prog 44 := en_44
theorem tl_F44 (N : Nat) : TabL Tryz.prog T (C_F44 N) := (.cons (fs_F42 N) en_F42 .nil)
theorem nl_F44 (N : Nat) : NatL (C_F44 N) := (.cons (na_F42 N) .nil)
theorem ct_F44 (N : Nat) : NatTab (E_F44 N).C := tab_nat (l := C_F44 N) (nl_F44 N)
theorem eo_F44 (N : Nat) : EnvOk (E_F44 N) := ⟨tyOk Tryz.prog, tab_sound (l := C_F44 N) (tl_F44 N), flatOk, keysOk⟩
theorem ll_F44 : loopsOf code_44 = [] := by kernel_rfl
theorem fi_F44 (N : Nat) : FineL (E_F44 N) N [] := .nil
theorem cc_F44 (N : Nat) : CutsOk (E_F44 N) N code_44 := cuts_of (fun _ => rfl) code_44 (by rw [ll_F44]; exact fi_F44 N)
theorem v_F44 (args : List (IV A)) : (∀ (N : Nat) (R : Type) (k : IV A → List (IV A) → Option R), S_F44 N args k = none) ∨ ∃ (a1 : Int) (a2 : Int), args = [.agg [.d (.int .i64 a1), .d (.int .i64 a2)]] := by
  by_cases h : ∃ (a1 : Int) (a2 : Int), args = [.agg [.d (.int .i64 a1), .d (.int .i64 a2)]]
  · exact .inr h
  · refine .inl (fun N R k => ?_)
    unfold S_F44 SS_F44
    split
    · exact absurd ⟨_, _, rfl⟩ h
    · rfl
theorem sm_F44 (N : Nat) : Same (S_F44 N) (abody (E_F44 N) Tryz.f44 code_44 1 [] [.asis] N) := by
  intro args
  rcases v_F44 args with h | ⟨a1, a2, rfl⟩
  · exact .inl (h N)
  · exact .inr (fun R k => (t_F44 N a1 a2 R k).symm)
theorem fu_44 : Tryz.prog.funcs[44]? = some Tryz.f44 := by kernel_rfl
theorem bo_44 : Tryz.f44.body = some code_44 := by kernel_rfl
theorem fs_F44 (N : Nat) : FnSound Tryz.prog T 44 (S_F44 N) := fs_of (E_F44 N) rfl rfl (eo_F44 N) (ct_F44 N) mixed fu_44 bo_44 1 [] [.asis] N (cc_F44 N) (sm_F44 N)
theorem na_F44 (N : Nat) : NatSpec (S_F44 N) := na_of (E_F44 N) (ct_F44 N) Tryz.f44 code_44 1 [] [.asis] N (cc_F44 N) (sm_F44 N)
abbrev TF46 : Type 1 := Int → Int → Int → {R : Type} → (Bool → Option R) → Option R
def F46_ (N : Nat) (a1 : Int) (a2 : Int) (a3 : Int) {R : Type} (k0 : Bool → Option R) : Option R :=
  (bif (decide (a1 ≤ a3)) then k0 ((decide (a3 < a2))) else k0 false)
def F46 (N : Nat) : TF46 := @F46_ N
def p_F46 (args : List (IV A)) : Bool := match args with | [.agg [.d (.int .i64 _), .d (.int .i64 _)], .d (.int .i64 _)] => true | _ => false
def SS_F46 (g : TF46) : Spec A := fun args _ k => match args with | [.agg [.d (.int .i64 a1), .d (.int .i64 a2)], .d (.int .i64 a3)] => g a1 a2 a3 (fun z0 => k (.d (.bool z0)) [.undef, .undef]) | _ => none
def S_F46 (N : Nat) : Spec A := SS_F46 (F46 N)
noncomputable def code_46 : Code := (Tryz.f46.body).getD .skip
def C_F46_ : List (Nat × Spec A) := []
def C_F46 (N : Nat) : List (Nat × Spec A) := C_F46_
noncomputable def E_F46_ (N : Nat) : Env A := { P := Tryz.prog, T := T, C := fun f => (C_F46_).lookup f, tg := fun d => ([(2, [0])].lookup d).getD [], seqH := fun _ => none, loopH := fun i => [].lookup i, exitH := fun i => [].lookup i, cutL := fun _ => none, mode := fun f i => [].contains (f, i), keyed := keyT, flat := flatT, pin := [] }
noncomputable def E_F46 (N : Nat) : Env A := E_F46_ N
theorem tg_F46 (N : Nat) (a1 : Int) (a2 : Int) (a3 : Int) (R : Type) (k : IV A → List (IV A) → Option R) : abody (E_F46_ N) Tryz.f46 code_46 1 [] [.asis] N [.agg [.d (.int .i64 a1), .d (.int .i64 a2)], .d (.int .i64 a3)] k = SS_F46 (@F46_ N) [.agg [.d (.int .i64 a1), .d (.int .i64 a2)], .d (.int .i64 a3)] k := by kernel_rfl
theorem t_F46 (N : Nat) (a1 : Int) (a2 : Int) (a3 : Int) (R : Type) (k : IV A → List (IV A) → Option R) : abody (E_F46 N) Tryz.f46 code_46 1 [] [.asis] N [.agg [.d (.int .i64 a1), .d (.int .i64 a2)], .d (.int .i64 a3)] k = S_F46 N [.agg [.d (.int .i64 a1), .d (.int .i64 a2)], .d (.int .i64 a3)] k := tg_F46 N a1 a2 a3 R k
theorem en_46 : Enters Tryz.prog 46 := enters_of (fn := Tryz.f46) (by kernel_rfl) (by kernel_rfl) (by kernel_rfl)
theorem en_F46 : Enters Tryz.prog 46 := en_46
theorem tl_F46 (N : Nat) : TabL Tryz.prog T (C_F46 N) := .nil
theorem nl_F46 (N : Nat) : NatL (C_F46 N) := .nil
theorem ct_F46 (N : Nat) : NatTab (E_F46 N).C := tab_nat (l := C_F46 N) (nl_F46 N)
theorem eo_F46 (N : Nat) : EnvOk (E_F46 N) := ⟨tyOk Tryz.prog, tab_sound (l := C_F46 N) (tl_F46 N), flatOk, keysOk⟩
theorem ll_F46 : loopsOf code_46 = [] := by kernel_rfl
theorem fi_F46 (N : Nat) : FineL (E_F46 N) N [] := .nil
theorem cc_F46 (N : Nat) : CutsOk (E_F46 N) N code_46 := cuts_of (fun _ => rfl) code_46 (by rw [ll_F46]; exact fi_F46 N)
theorem v_F46 (args : List (IV A)) : (∀ (N : Nat) (R : Type) (k : IV A → List (IV A) → Option R), S_F46 N args k = none) ∨ ∃ (a1 : Int) (a2 : Int) (a3 : Int), args = [.agg [.d (.int .i64 a1), .d (.int .i64 a2)], .d (.int .i64 a3)] := by
  by_cases h : ∃ (a1 : Int) (a2 : Int) (a3 : Int), args = [.agg [.d (.int .i64 a1), .d (.int .i64 a2)], .d (.int .i64 a3)]
  · exact .inr h
  · refine .inl (fun N R k => ?_)
    unfold S_F46 SS_F46
    split
    · exact absurd ⟨_, _, _, rfl⟩ h
    · rfl
theorem sm_F46 (N : Nat) : Same (S_F46 N) (abody (E_F46 N) Tryz.f46 code_46 1 [] [.asis] N) := by
  intro args
  rcases v_F46 args with h | ⟨a1, a2, a3, rfl⟩
  · exact .inl (h N)
  · exact .inr (fun R k => (t_F46 N a1 a2 a3 R k).symm)
theorem fu_46 : Tryz.prog.funcs[46]? = some Tryz.f46 := by kernel_rfl
theorem bo_46 : Tryz.f46.body = some code_46 := by kernel_rfl
theorem fs_F46 (N : Nat) : FnSound Tryz.prog T 46 (S_F46 N) := fs_of (E_F46 N) rfl rfl (eo_F46 N) (ct_F46 N) mixed fu_46 bo_46 1 [] [.asis] N (cc_F46 N) (sm_F46 N)
theorem na_F46 (N : Nat) : NatSpec (S_F46 N) := na_of (E_F46 N) (ct_F46 N) Tryz.f46 code_46 1 [] [.asis] N (cc_F46 N) (sm_F46 N)
abbrev TF45 : Type 1 := Int → Int → Int → List (G_Window) → {R : Type} → (Int → Int → List (G_Window) → Option R) → Option R
def F45_ (N : Nat) (a1 : Int) (a2 : Int) (a3 : Int) (a4 : List (G_Window)) {R : Type} (k0 : Int → Int → List (G_Window) → Option R) : Option R :=
  (bif (decide ((IntKind.i64.wrap (a1 - a2)) ≥ a3)) then (bif (decide ((a4.length + [(⟨a2, a1⟩ : G_Window)].length) * 16 ≤ roomBytes')) then k0 a2 a3 ((a4 ++ [(⟨a2, a1⟩ : G_Window)])) else none) else k0 a2 a3 a4)
def F45 (N : Nat) : TF45 := @F45_ N
def p_F45 (args : List (IV A)) : Bool := match args with | [.d (.int .i64 _), .box [.d (.int .i64 _)], .box [.d (.int .i64 _)], .box [.arr 31 _]] => true | _ => false
def SS_F45 (g : TF45) : Spec A := fun args _ k => match args with | [.d (.int .i64 a1), .box [.d (.int .i64 a2)], .box [.d (.int .i64 a3)], .box [.arr 31 a4]] => g a1 a2 a3 a4 (fun z0 z1 z2 => k (.tup []) [.undef, .box [.d (.int .i64 z0)], .box [.d (.int .i64 z1)], .box [.arr 31 z2]]) | _ => none
def S_F45 (N : Nat) : Spec A := SS_F45 (F45 N)
noncomputable def code_45 : Code := (Tryz.f45.body).getD .skip
def C_F45_ : List (Nat × Spec A) := []
def C_F45 (N : Nat) : List (Nat × Spec A) := C_F45_
noncomputable def E_F45_ (N : Nat) : Env A := { P := Tryz.prog, T := T, C := fun f => (C_F45_).lookup f, tg := fun d => ([(14, [4]), (15, [5])].lookup d).getD [], seqH := fun _ => none, loopH := fun i => [].lookup i, exitH := fun i => [].lookup i, cutL := fun _ => none, mode := fun f i => [].contains (f, i), keyed := keyT, flat := flatT, pin := [1, 2, 3] }
noncomputable def E_F45 (N : Nat) : Env A := E_F45_ N
theorem tg_F45 (N : Nat) (a1 : Int) (a2 : Int) (a3 : Int) (a4 : List (G_Window)) (R : Type) (k : IV A → List (IV A) → Option R) : abody (E_F45_ N) Tryz.f45 code_45 6 [0, 1, 2, 3] [] N [.d (.int .i64 a1), .box [.d (.int .i64 a2)], .box [.d (.int .i64 a3)], .box [.arr 31 a4]] k = SS_F45 (@F45_ N) [.d (.int .i64 a1), .box [.d (.int .i64 a2)], .box [.d (.int .i64 a3)], .box [.arr 31 a4]] k := by kernel_rfl
theorem t_F45 (N : Nat) (a1 : Int) (a2 : Int) (a3 : Int) (a4 : List (G_Window)) (R : Type) (k : IV A → List (IV A) → Option R) : abody (E_F45 N) Tryz.f45 code_45 6 [0, 1, 2, 3] [] N [.d (.int .i64 a1), .box [.d (.int .i64 a2)], .box [.d (.int .i64 a3)], .box [.arr 31 a4]] k = S_F45 N [.d (.int .i64 a1), .box [.d (.int .i64 a2)], .box [.d (.int .i64 a3)], .box [.arr 31 a4]] k := tg_F45 N a1 a2 a3 a4 R k
theorem en_45 : Enters Tryz.prog 45 := enters_of (fn := Tryz.f45) (by kernel_rfl) (by kernel_rfl) (by kernel_rfl)
theorem en_F45 : Enters Tryz.prog 45 := en_45
theorem tl_F45 (N : Nat) : TabL Tryz.prog T (C_F45 N) := .nil
theorem nl_F45 (N : Nat) : NatL (C_F45 N) := .nil
theorem ct_F45 (N : Nat) : NatTab (E_F45 N).C := tab_nat (l := C_F45 N) (nl_F45 N)
theorem eo_F45 (N : Nat) : EnvOk (E_F45 N) := ⟨tyOk Tryz.prog, tab_sound (l := C_F45 N) (tl_F45 N), flatOk, keysOk⟩
theorem ll_F45 : loopsOf code_45 = [] := by kernel_rfl
theorem fi_F45 (N : Nat) : FineL (E_F45 N) N [] := .nil
theorem cc_F45 (N : Nat) : CutsOk (E_F45 N) N code_45 := cuts_of (fun _ => rfl) code_45 (by rw [ll_F45]; exact fi_F45 N)
theorem v_F45 (args : List (IV A)) : (∀ (N : Nat) (R : Type) (k : IV A → List (IV A) → Option R), S_F45 N args k = none) ∨ ∃ (a1 : Int) (a2 : Int) (a3 : Int) (a4 : List (G_Window)), args = [.d (.int .i64 a1), .box [.d (.int .i64 a2)], .box [.d (.int .i64 a3)], .box [.arr 31 a4]] := by
  by_cases h : ∃ (a1 : Int) (a2 : Int) (a3 : Int) (a4 : List (G_Window)), args = [.d (.int .i64 a1), .box [.d (.int .i64 a2)], .box [.d (.int .i64 a3)], .box [.arr 31 a4]]
  · exact .inr h
  · refine .inl (fun N R k => ?_)
    unfold S_F45 SS_F45
    split
    · exact absurd ⟨_, _, _, _, rfl⟩ h
    · rfl
theorem sm_F45 (N : Nat) : Same (S_F45 N) (abody (E_F45 N) Tryz.f45 code_45 6 [0, 1, 2, 3] [] N) := by
  intro args
  rcases v_F45 args with h | ⟨a1, a2, a3, a4, rfl⟩
  · exact .inl (h N)
  · exact .inr (fun R k => (t_F45 N a1 a2 a3 a4 R k).symm)
theorem fu_45 : Tryz.prog.funcs[45]? = some Tryz.f45 := by kernel_rfl
theorem bo_45 : Tryz.f45.body = some code_45 := by kernel_rfl
theorem fs_F45 (N : Nat) : FnSound Tryz.prog T 45 (S_F45 N) := fs_of (E_F45 N) rfl rfl (eo_F45 N) (ct_F45 N) mixed fu_45 bo_45 6 [0, 1, 2, 3] [] N (cc_F45 N) (sm_F45 N)
theorem na_F45 (N : Nat) : NatSpec (S_F45 N) := na_of (E_F45 N) (ct_F45 N) Tryz.f45 code_45 6 [0, 1, 2, 3] [] N (cc_F45 N) (sm_F45 N)
def L12_10 (g37 : TF37) (g42 : TF42) (g44 : TF44) (g45 : TF45) (g46 : TF46) : Nat → Nat → List (G_Contact) → Int → Int → Int → Int → Int → Int → List (G_Window) → {R : Type} → (Int → Int → Int → Int → List (G_Window) → Option R) → Option R
  | _, 0, _, _, _, _, _, _, _, _, _, _ => none
  | N, n + 1, v8, v9, v10, v11, v12, v13, v14, v15, _, e0 => (bif (decide (v10 < v9)) then (bif (decide (0 ≤ v10)) then (match v8[(v10 : Int).toNat]? with | some x21 => (g46 v11 v12 x21.f_At (fun r22 => (bif r22 then (g45 x21.f_At v14 v13 v15 (fun r23 r24 r25 => L12_10 g37 g42 g44 g45 g46 N n v8 v9 ((IntKind.i64.wrap (v10 + 1))) v11 v12 r24 ((IntKind.i64.wrap (x21.f_At + 1))) r25 e0)) else L12_10 g37 g42 g44 g45 g46 N n v8 v9 ((IntKind.i64.wrap (v10 + 1))) v11 v12 v13 v14 v15 e0))) | none => none) else none) else e0 v11 v12 v13 v14 v15)
abbrev TF12 : Type 1 := List (G_Contact) → Int → Int → Int → {R : Type} → (List (G_Window) → Int → Option R) → Option R
def F12_ (g37 : TF37) (g42 : TF42) (g44 : TF44) (g45 : TF45) (g46 : TF46) (N : Nat) (a1 : List (G_Contact)) (a2 : Int) (a3 : Int) (a4 : Int) {R : Type} (k0 : List (G_Window) → Int → Option R) : Option R :=
  (g37 a1 (fun r5 => (bif (r5 != 0) then k0 [] r5 else (g44 a2 a3 (fun r6 => (bif (!r6) then k0 [] 1 else (g42 a4 1 86400000 (fun r7 => (bif r7 then k0 [] 1 else (L12_10 g37 g42 g44 g45 g46 N N a1 (a1.length : Int) 0 a2 a3 a4 a2 [] (fun e26 e27 e28 e29 e30 => (g45 e27 e29 e28 e30 (fun r31 r32 r33 => k0 r33 0)))))))))))))
def F12 (N : Nat) : TF12 := @F12_ (@F37 N) (@F42 N) (@F44 N) (@F45 N) (@F46 N) N
def p_F12 (args : List (IV A)) : Bool := match args with | [.d (.sl 58 _), .agg [.d (.int .i64 _), .d (.int .i64 _)], .d (.int .i64 _)] => true | _ => false
def SS_F12 (g : TF12) : Spec A := fun args _ k => match args with | [.d (.sl 58 a1), .agg [.d (.int .i64 a2), .d (.int .i64 a3)], .d (.int .i64 a4)] => g a1 a2 a3 a4 (fun z0 z1 => k (.tup [.arr 31 z0, .d (.int .i64 z1)]) [.undef, .undef, .undef]) | _ => none
def S_F12 (N : Nat) : Spec A := SS_F12 (F12 N)
def sh_L12_10 : SSt := { fr := sparse .undef 52 [(4, .ptr 0 0), (9, .ptr 2 0), (10, .ptr 3 0), (11, .fn 45 [.ptr 3 0, .ptr 1 0, .ptr 2 0]), (29, .sl 58), (30, .int .i64), (31, .int .i64)], st := sparse .none 8 [(0, .box [.int .i64, .int .i64]), (1, .box [.int .i64]), (2, .box [.own 31 4]), (3, .box [.int .i64]), (4, .row 31)] }
def LP_L12_10 (g37 : TF37) (g42 : TF42) (g44 : TF44) (g45 : TF45) (g46 : TF46) (N n : Nat) (ps : List (Pv A)) {R : Type} (K : Ex → St A → Option R) : Option R := match ps with | [.d (.sl 58 p0), .d (.int .i64 p1), .d (.int .i64 p2), .d (.int .i64 p3), .d (.int .i64 p4), .d (.int .i64 p5), .d (.int .i64 p6), .d (.sl 31 p7)] => L12_10 g37 g42 g44 g45 g46 N n p0 p1 p2 p3 p4 p5 p6 p7 (fun z0 z1 z2 z3 z4 => K (.exit 0) { fr := sparse .undef 52 [(4, .ptr 0 0), (9, .ptr 2 0), (11, .fn 45 [.ptr 3 0, .ptr 1 0, .ptr 2 0])], st := sparse none 8 [(0, some (.box [.d (.int .i64 z0), .d (.int .i64 z1)])), (1, some (.box [.d (.int .i64 z2)])), (2, some (.box [.own 31 4])), (3, some (.box [.d (.int .i64 z3)])), (4, some (.row 31 z4))] }) | _ => none
def LS_L12_10 (g37 : TF37) (g42 : TF42) (g44 : TF44) (g45 : TF45) (g46 : TF46) (N n : Nat) : Piece A := fun S _ K => match decSt sh_L12_10 S with | some ps => LP_L12_10 g37 g42 g44 g45 g46 N n ps K | none => none
noncomputable def code_12 : Code := (Tryz.f12.body).getD .skip
def C_F12_ (g37 : TF37) (g42 : TF42) (g44 : TF44) (g45 : TF45) (g46 : TF46) : List (Nat × Spec A) := [(37, SS_F37 g37), (42, SS_F42 g42), (44, SS_F44 g44), (45, SS_F45 g45), (46, SS_F46 g46)]
def C_F12 (N : Nat) : List (Nat × Spec A) := C_F12_ (@F37 N) (@F42 N) (@F44 N) (@F45 N) (@F46 N)
noncomputable def E_F12_ (g37 : TF37) (g42 : TF42) (g44 : TF44) (g45 : TF45) (g46 : TF46) (N : Nat) : Env A := { P := Tryz.prog, T := T, C := fun f => (C_F12_ g37 g42 g44 g45 g46).lookup f, tg := fun d => ([(4, [0]), (5, [1]), (9, [2]), (10, [3]), (13, [5]), (42, [6]), (50, [7])].lookup d).getD [], seqH := fun _ => none, loopH := fun i => [(10, ({ keep := [4, 9, 10, 11, 29, 30, 31], canon := [], stay := [0, 1, 2, 3], boxes := [(2, 0, 31, 4)] } : Hint))].lookup i, exitH := fun i => [(10, ({ keep := [4, 9, 11], canon := [], stay := [0, 1, 2, 3, 4] } : Hint))].lookup i, cutL := fun i => [(10, LS_L12_10 g37 g42 g44 g45 g46 N N)].lookup i, mode := fun f i => [].contains (f, i), keyed := keyT, flat := flatT, pin := [] }
noncomputable def E_F12 (N : Nat) : Env A := E_F12_ (@F37 N) (@F42 N) (@F44 N) (@F45 N) (@F46 N) N
theorem tg_F12 (g37 : TF37) (g42 : TF42) (g44 : TF44) (g45 : TF45) (g46 : TF46) (N : Nat) (a1 : List (G_Contact)) (a2 : Int) (a3 : Int) (a4 : Int) (R : Type) (k : IV A → List (IV A) → Option R) : abody (E_F12_ g37 g42 g44 g45 g46 N) Tryz.f12 code_12 8 [] [.arr 31, .asis] N [.d (.sl 58 a1), .agg [.d (.int .i64 a2), .d (.int .i64 a3)], .d (.int .i64 a4)] k = SS_F12 (@F12_ g37 g42 g44 g45 g46 N) [.d (.sl 58 a1), .agg [.d (.int .i64 a2), .d (.int .i64 a3)], .d (.int .i64 a4)] k := by kernel_rfl
theorem t_F12 (N : Nat) (a1 : List (G_Contact)) (a2 : Int) (a3 : Int) (a4 : Int) (R : Type) (k : IV A → List (IV A) → Option R) : abody (E_F12 N) Tryz.f12 code_12 8 [] [.arr 31, .asis] N [.d (.sl 58 a1), .agg [.d (.int .i64 a2), .d (.int .i64 a3)], .d (.int .i64 a4)] k = S_F12 N [.d (.sl 58 a1), .agg [.d (.int .i64 a2), .d (.int .i64 a3)], .d (.int .i64 a4)] k := tg_F12 (@F37 N) (@F42 N) (@F44 N) (@F45 N) (@F46 N) N a1 a2 a3 a4 R k
noncomputable def cb_L12_10 : Code := sub [1, 1, 1, 1, 1, 1, 0, 1, 0, 0] code_12
noncomputable def bd_L12_10 (g37 : TF37) (g42 : TF42) (g44 : TF44) (g45 : TF45) (g46 : TF46) (N : Nat) : Piece A := around (fun S _ K => aexec (E_F12_ g37 g42 g44 g45 g46 N) N cb_L12_10 S K) ((firstReg cb_L12_10).bind (E_F12_ g37 g42 g44 g45 g46 N).loopH) ((firstReg cb_L12_10).bind (E_F12_ g37 g42 g44 g45 g46 N).exitH)
theorem b_L12_10 (g37 : TF37) (g42 : TF42) (g44 : TF44) (g45 : TF45) (g46 : TF46) (N n : Nat) (p0 : List (G_Contact)) (p1 : Int) (p2 : Int) (p3 : Int) (p4 : Int) (p5 : Int) (p6 : Int) (p7 : List (G_Window)) (R : Type) (K : Ex → St A → Option R) : bd_L12_10 g37 g42 g44 g45 g46 N { fr := sparse .undef 52 [(4, .ptr 0 0), (9, .ptr 2 0), (10, .ptr 3 0), (11, .fn 45 [.ptr 3 0, .ptr 1 0, .ptr 2 0]), (29, .d (.sl 58 p0)), (30, .d (.int .i64 p1)), (31, .d (.int .i64 p2))], st := sparse none 8 [(0, some (.box [.d (.int .i64 p3), .d (.int .i64 p4)])), (1, some (.box [.d (.int .i64 p5)])), (2, some (.box [.own 31 4])), (3, some (.box [.d (.int .i64 p6)])), (4, some (.row 31 p7))] } (fun e S' => match e with | .normal => LS_L12_10 g37 g42 g44 g45 g46 N n S' K | e => K e S') = LP_L12_10 g37 g42 g44 g45 g46 N (n + 1) [.d (.sl 58 p0), .d (.int .i64 p1), .d (.int .i64 p2), .d (.int .i64 p3), .d (.int .i64 p4), .d (.int .i64 p5), .d (.int .i64 p6), .d (.sl 31 p7)] K := by kernel_rfl
theorem m_L12_10 (g37 : TF37) (g42 : TF42) (g44 : TF44) (g45 : TF45) (g46 : TF46) (ps : List (Pv A)) : (∀ (N n : Nat) (R : Type) (K : Ex → St A → Option R), LP_L12_10 g37 g42 g44 g45 g46 N n ps K = none) ∨ ∃ (p0 : List (G_Contact)) (p1 : Int) (p2 : Int) (p3 : Int) (p4 : Int) (p5 : Int) (p6 : Int) (p7 : List (G_Window)), ps = [.d (.sl 58 p0), .d (.int .i64 p1), .d (.int .i64 p2), .d (.int .i64 p3), .d (.int .i64 p4), .d (.int .i64 p5), .d (.int .i64 p6), .d (.sl 31 p7)] := by
  by_cases h : ∃ (p0 : List (G_Contact)) (p1 : Int) (p2 : Int) (p3 : Int) (p4 : Int) (p5 : Int) (p6 : Int) (p7 : List (G_Window)), ps = [.d (.sl 58 p0), .d (.int .i64 p1), .d (.int .i64 p2), .d (.int .i64 p3), .d (.int .i64 p4), .d (.int .i64 p5), .d (.int .i64 p6), .d (.sl 31 p7)]
  · exact .inr h
  · refine .inl (fun N n R K => ?_)
    unfold LP_L12_10
    split
    · exact absurd ⟨_, _, _, _, _, _, _, _, rfl⟩ h
    · rfl
theorem s_L12_10 (g37 : TF37) (g42 : TF42) (g44 : TF44) (g45 : TF45) (g46 : TF46) (N n : Nat) (S : St A) : (∀ (R : Type) (K : Ex → St A → Option R), LS_L12_10 g37 g42 g44 g45 g46 N (n + 1) S K = none) ∨ ∀ (R : Type) (K : Ex → St A → Option R), LS_L12_10 g37 g42 g44 g45 g46 N (n + 1) S K = bd_L12_10 g37 g42 g44 g45 g46 N S (fun e S' => match e with | .normal => LS_L12_10 g37 g42 g44 g45 g46 N n S' K | e => K e S') := by
  cases hd : decSt sh_L12_10 S with
  | none => exact .inl (fun R K => by unfold LS_L12_10; rw [hd])
  | some ps =>
    have he := decSt_enc hd
    rcases m_L12_10 g37 g42 g44 g45 g46 ps with h | ⟨p0, p1, p2, p3, p4, p5, p6, p7, rfl⟩
    · exact .inl (fun R K => by unfold LS_L12_10; rw [hd]; exact h N (n + 1) R K)
    · have hS : encSt (A := A) sh_L12_10 [.d (.sl 58 p0), .d (.int .i64 p1), .d (.int .i64 p2), .d (.int .i64 p3), .d (.int .i64 p4), .d (.int .i64 p5), .d (.int .i64 p6), .d (.sl 31 p7)] = some { fr := sparse .undef 52 [(4, .ptr 0 0), (9, .ptr 2 0), (10, .ptr 3 0), (11, .fn 45 [.ptr 3 0, .ptr 1 0, .ptr 2 0]), (29, .d (.sl 58 p0)), (30, .d (.int .i64 p1)), (31, .d (.int .i64 p2))], st := sparse none 8 [(0, some (.box [.d (.int .i64 p3), .d (.int .i64 p4)])), (1, some (.box [.d (.int .i64 p5)])), (2, some (.box [.own 31 4])), (3, some (.box [.d (.int .i64 p6)])), (4, some (.row 31 p7))] } := by kernel_rfl
      rw [hS] at he
      obtain rfl := Option.some.inj he
      refine .inr (fun R K => ?_)
      rw [b_L12_10]
      unfold LS_L12_10
      rw [hd]
theorem z_L12_10 (g37 : TF37) (g42 : TF42) (g44 : TF44) (g45 : TF45) (g46 : TF46) (N : Nat) (R : Type) (S : St A) (K : Ex → St A → Option R) : LS_L12_10 g37 g42 g44 g45 g46 N 0 S K = none := by
  unfold LS_L12_10
  cases decSt sh_L12_10 S with
  | none => rfl
  | some ps =>
    simp only
    unfold LP_L12_10
    split <;> (try unfold L12_10) <;> rfl
theorem en_12 : Enters Tryz.prog 12 := enters_of (fn := Tryz.f12) (by kernel_rfl) (by kernel_rfl) (by kernel_rfl)
theorem en_F12 : Enters Tryz.prog 12 := en_12
theorem tl_F12 (N : Nat) : TabL Tryz.prog T (C_F12 N) := (.cons (fs_F37 N) en_F37 (.cons (fs_F42 N) en_F42 (.cons (fs_F44 N) en_F44 (.cons (fs_F45 N) en_F45 (.cons (fs_F46 N) en_F46 .nil)))))
theorem nl_F12 (N : Nat) : NatL (C_F12 N) := (.cons (na_F37 N) (.cons (na_F42 N) (.cons (na_F44 N) (.cons (na_F45 N) (.cons (na_F46 N) .nil)))))
theorem ct_F12 (N : Nat) : NatTab (E_F12 N).C := tab_nat (l := C_F12 N) (nl_F12 N)
theorem eo_F12 (N : Nat) : EnvOk (E_F12 N) := ⟨tyOk Tryz.prog, tab_sound (l := C_F12 N) (tl_F12 N), flatOk, keysOk⟩
theorem ll_L12_10 : loopsOf cb_L12_10 = [] := by kernel_rfl
theorem fi_L12_10 (N : Nat) : FineL (E_F12 N) N [] := .nil
theorem cc_L12_10 (N : Nat) : CutsOk (E_F12 N) N cb_L12_10 := cuts_of (fun _ => rfl) cb_L12_10 (by rw [ll_L12_10]; exact fi_L12_10 N)
theorem cg_L12_10 (g37 : TF37) (g42 : TF42) (g44 : TF44) (g45 : TF45) (g46 : TF46) (N : Nat) : (firstReg cb_L12_10).bind (E_F12_ g37 g42 g44 g45 g46 N).cutL = some (LS_L12_10 g37 g42 g44 g45 g46 N N) := by kernel_rfl
theorem ce_L12_10 (N : Nat) : (firstReg cb_L12_10).bind (E_F12 N).cutL = some (LS_L12_10 (@F37 N) (@F42 N) (@F44 N) (@F45 N) (@F46 N) N N) := cg_L12_10 (@F37 N) (@F42 N) (@F44 N) (@F45 N) (@F46 N) N
theorem lf_L12_10 (N : Nat) : LoopFine (E_F12 N) N cb_L12_10 := fine_of (LS_L12_10 (@F37 N) (@F42 N) (@F44 N) (@F45 N) (@F46 N) N) (ce_L12_10 N) (ct_F12 N) (cc_L12_10 N) (z_L12_10 (@F37 N) (@F42 N) (@F44 N) (@F45 N) (@F46 N) N) (s_L12_10 (@F37 N) (@F42 N) (@F44 N) (@F45 N) (@F46 N) N)
theorem ll_F12 : loopsOf code_12 = [cb_L12_10] := by kernel_rfl
theorem fi_F12 (N : Nat) : FineL (E_F12 N) N [cb_L12_10] := (.cons (lf_L12_10 N) .nil)
theorem cc_F12 (N : Nat) : CutsOk (E_F12 N) N code_12 := cuts_of (fun _ => rfl) code_12 (by rw [ll_F12]; exact fi_F12 N)
theorem v_F12 (args : List (IV A)) : (∀ (N : Nat) (R : Type) (k : IV A → List (IV A) → Option R), S_F12 N args k = none) ∨ ∃ (a1 : List (G_Contact)) (a2 : Int) (a3 : Int) (a4 : Int), args = [.d (.sl 58 a1), .agg [.d (.int .i64 a2), .d (.int .i64 a3)], .d (.int .i64 a4)] := by
  by_cases h : ∃ (a1 : List (G_Contact)) (a2 : Int) (a3 : Int) (a4 : Int), args = [.d (.sl 58 a1), .agg [.d (.int .i64 a2), .d (.int .i64 a3)], .d (.int .i64 a4)]
  · exact .inr h
  · refine .inl (fun N R k => ?_)
    unfold S_F12 SS_F12
    split
    · exact absurd ⟨_, _, _, _, rfl⟩ h
    · rfl
theorem sm_F12 (N : Nat) : Same (S_F12 N) (abody (E_F12 N) Tryz.f12 code_12 8 [] [.arr 31, .asis] N) := by
  intro args
  rcases v_F12 args with h | ⟨a1, a2, a3, a4, rfl⟩
  · exact .inl (h N)
  · exact .inr (fun R k => (t_F12 N a1 a2 a3 a4 R k).symm)
theorem fu_12 : Tryz.prog.funcs[12]? = some Tryz.f12 := by kernel_rfl
theorem bo_12 : Tryz.f12.body = some code_12 := by kernel_rfl
theorem fs_F12 (N : Nat) : FnSound Tryz.prog T 12 (S_F12 N) := fs_of (E_F12 N) rfl rfl (eo_F12 N) (ct_F12 N) mixed fu_12 bo_12 8 [] [.arr 31, .asis] N (cc_F12 N) (sm_F12 N)
theorem na_F12 (N : Nat) : NatSpec (S_F12 N) := na_of (E_F12 N) (ct_F12 N) Tryz.f12 code_12 8 [] [.arr 31, .asis] N (cc_F12 N) (sm_F12 N)
def L13_11 (g37 : TF37) (g44 : TF44) (g46 : TF46) : Nat → Nat → List (G_Contact) → Int → Int → Int → Int → List (Int) → {R : Type} → (List (Int) → Option R) → Option R
  | _, 0, _, _, _, _, _, _, _, _ => none
  | N, n + 1, v6, v7, v8, v9, v10, v11, _, e0 => (bif (decide (v8 < v7)) then (bif (decide (0 ≤ v8)) then (match v6[(v8 : Int).toNat]? with | some x16 => (g46 v9 v10 x16.f_At (fun r17 => (bif r17 then (bif (decide (0 ≤ (IntKind.i64.wrap (Int.tdiv (IntKind.i64.wrap (x16.f_At - v9)) 3600000))) && decide ((IntKind.i64.wrap (Int.tdiv (IntKind.i64.wrap (x16.f_At - v9)) 3600000)) < (v11.length : Int))) then (match v11[((IntKind.i64.wrap (Int.tdiv (IntKind.i64.wrap (x16.f_At - v9)) 3600000)) : Int).toNat]? with | some x18 => (bif (decide (0 ≤ (IntKind.i64.wrap (Int.tdiv (IntKind.i64.wrap (x16.f_At - v9)) 3600000))) && decide ((IntKind.i64.wrap (Int.tdiv (IntKind.i64.wrap (x16.f_At - v9)) 3600000)) < (v11.length : Int))) then (match v11[((IntKind.i64.wrap (Int.tdiv (IntKind.i64.wrap (x16.f_At - v9)) 3600000)) : Int).toNat]? with | some x19 => L13_11 g37 g44 g46 N n v6 v7 ((IntKind.i64.wrap (v8 + 1))) v9 v10 ((v11.set ((IntKind.i64.wrap (Int.tdiv (IntKind.i64.wrap (x16.f_At - v9)) 3600000)) : Int).toNat (IntKind.i64.wrap (x18 + 1)))) e0 | none => none) else none) | none => none) else none) else L13_11 g37 g44 g46 N n v6 v7 ((IntKind.i64.wrap (v8 + 1))) v9 v10 v11 e0))) | none => none) else none) else e0 v11)
abbrev TF13 : Type 1 := List (G_Contact) → Int → Int → {R : Type} → (List (Int) → Int → Option R) → Option R
def F13_ (g37 : TF37) (g44 : TF44) (g46 : TF46) (N : Nat) (a1 : List (G_Contact)) (a2 : Int) (a3 : Int) {R : Type} (k0 : List (Int) → Int → Option R) : Option R :=
  (g37 a1 (fun r4 => (bif (r4 != 0) then k0 [] r4 else (g44 a2 a3 (fun r5 => (bif (!r5) then k0 [] 1 else (bif (decide ((IntKind.i64.wrap (Int.tdiv (IntKind.i64.wrap ((IntKind.i64.wrap ((IntKind.i64.wrap (a3 - a2)) + 3600000)) - 1)) 3600000)) > 1000)) then k0 [] 2 else (bif (decide (0 ≤ (IntKind.i64.wrap (Int.tdiv (IntKind.i64.wrap ((IntKind.i64.wrap ((IntKind.i64.wrap (a3 - a2)) + 3600000)) - 1)) 3600000))) && (decide ((IntKind.i64.wrap (Int.tdiv (IntKind.i64.wrap ((IntKind.i64.wrap ((IntKind.i64.wrap (a3 - a2)) + 3600000)) - 1)) 3600000)) ≤ (IntKind.i64.wrap (Int.tdiv (IntKind.i64.wrap ((IntKind.i64.wrap ((IntKind.i64.wrap (a3 - a2)) + 3600000)) - 1)) 3600000))) && decide ((IntKind.i64.wrap (Int.tdiv (IntKind.i64.wrap ((IntKind.i64.wrap ((IntKind.i64.wrap (a3 - a2)) + 3600000)) - 1)) 3600000)) * (8 : Nat) ≤ 140737488355328))) then (L13_11 g37 g44 g46 N N a1 (a1.length : Int) 0 a2 a3 ((List.replicate ((IntKind.i64.wrap (Int.tdiv (IntKind.i64.wrap ((IntKind.i64.wrap ((IntKind.i64.wrap (a3 - a2)) + 3600000)) - 1)) 3600000)) : Int).toNat 0)) (fun e20 => k0 e20 0)) else none))))))))
def F13 (N : Nat) : TF13 := @F13_ (@F37 N) (@F44 N) (@F46 N) N
def p_F13 (args : List (IV A)) : Bool := match args with | [.d (.sl 58 _), .agg [.d (.int .i64 _), .d (.int .i64 _)]] => true | _ => false
def SS_F13 (g : TF13) : Spec A := fun args _ k => match args with | [.d (.sl 58 a1), .agg [.d (.int .i64 a2), .d (.int .i64 a3)]] => g a1 a2 a3 (fun z0 z1 => k (.tup [.arr 3 z0, .d (.int .i64 z1)]) [.undef, .undef]) | _ => none
def S_F13 (N : Nat) : Spec A := SS_F13 (F13 N)
def sh_L13_11 : SSt := { fr := sparse .undef 54 [(3, .ptr 0 0), (8, .own 3 1), (31, .sl 58), (32, .int .i64), (33, .int .i64)], st := sparse .none 3 [(0, .box [.int .i64, .int .i64]), (1, .row 3)] }
def LP_L13_11 (g37 : TF37) (g44 : TF44) (g46 : TF46) (N n : Nat) (ps : List (Pv A)) {R : Type} (K : Ex → St A → Option R) : Option R := match ps with | [.d (.sl 58 p0), .d (.int .i64 p1), .d (.int .i64 p2), .d (.int .i64 p3), .d (.int .i64 p4), .d (.sl 3 p5)] => L13_11 g37 g44 g46 N n p0 p1 p2 p3 p4 p5 (fun z0 => K (.exit 0) { fr := sparse .undef 54 [(8, .own 3 1)], st := sparse none 3 [(1, some (.row 3 z0))] }) | _ => none
def LS_L13_11 (g37 : TF37) (g44 : TF44) (g46 : TF46) (N n : Nat) : Piece A := fun S _ K => match decSt sh_L13_11 S with | some ps => LP_L13_11 g37 g44 g46 N n ps K | none => none
noncomputable def code_13 : Code := (Tryz.f13.body).getD .skip
def C_F13_ (g37 : TF37) (g44 : TF44) (g46 : TF46) : List (Nat × Spec A) := [(37, SS_F37 g37), (44, SS_F44 g44), (46, SS_F46 g46)]
def C_F13 (N : Nat) : List (Nat × Spec A) := C_F13_ (@F37 N) (@F44 N) (@F46 N)
noncomputable def E_F13_ (g37 : TF37) (g44 : TF44) (g46 : TF46) (N : Nat) : Env A := { P := Tryz.prog, T := T, C := fun f => (C_F13_ g37 g44 g46).lookup f, tg := fun d => ([(3, [0]), (10, [2]), (30, [1])].lookup d).getD [], seqH := fun _ => none, loopH := fun i => [(11, ({ keep := [3, 8, 31, 32, 33], canon := [], stay := [0, 1] } : Hint))].lookup i, exitH := fun i => [(11, ({ keep := [8], canon := [], stay := [1] } : Hint))].lookup i, cutL := fun i => [(11, LS_L13_11 g37 g44 g46 N N)].lookup i, mode := fun f i => [].contains (f, i), keyed := keyT, flat := flatT, pin := [] }
noncomputable def E_F13 (N : Nat) : Env A := E_F13_ (@F37 N) (@F44 N) (@F46 N) N
theorem tg_F13 (g37 : TF37) (g44 : TF44) (g46 : TF46) (N : Nat) (a1 : List (G_Contact)) (a2 : Int) (a3 : Int) (R : Type) (k : IV A → List (IV A) → Option R) : abody (E_F13_ g37 g44 g46 N) Tryz.f13 code_13 3 [] [.arr 3, .asis] N [.d (.sl 58 a1), .agg [.d (.int .i64 a2), .d (.int .i64 a3)]] k = SS_F13 (@F13_ g37 g44 g46 N) [.d (.sl 58 a1), .agg [.d (.int .i64 a2), .d (.int .i64 a3)]] k := by kernel_rfl
theorem t_F13 (N : Nat) (a1 : List (G_Contact)) (a2 : Int) (a3 : Int) (R : Type) (k : IV A → List (IV A) → Option R) : abody (E_F13 N) Tryz.f13 code_13 3 [] [.arr 3, .asis] N [.d (.sl 58 a1), .agg [.d (.int .i64 a2), .d (.int .i64 a3)]] k = S_F13 N [.d (.sl 58 a1), .agg [.d (.int .i64 a2), .d (.int .i64 a3)]] k := tg_F13 (@F37 N) (@F44 N) (@F46 N) N a1 a2 a3 R k
noncomputable def cb_L13_11 : Code := sub [1, 1, 1, 1, 1, 1, 0, 1, 0, 0] code_13
noncomputable def bd_L13_11 (g37 : TF37) (g44 : TF44) (g46 : TF46) (N : Nat) : Piece A := around (fun S _ K => aexec (E_F13_ g37 g44 g46 N) N cb_L13_11 S K) ((firstReg cb_L13_11).bind (E_F13_ g37 g44 g46 N).loopH) ((firstReg cb_L13_11).bind (E_F13_ g37 g44 g46 N).exitH)
theorem b_L13_11 (g37 : TF37) (g44 : TF44) (g46 : TF46) (N n : Nat) (p0 : List (G_Contact)) (p1 : Int) (p2 : Int) (p3 : Int) (p4 : Int) (p5 : List (Int)) (R : Type) (K : Ex → St A → Option R) : bd_L13_11 g37 g44 g46 N { fr := sparse .undef 54 [(3, .ptr 0 0), (8, .own 3 1), (31, .d (.sl 58 p0)), (32, .d (.int .i64 p1)), (33, .d (.int .i64 p2))], st := sparse none 3 [(0, some (.box [.d (.int .i64 p3), .d (.int .i64 p4)])), (1, some (.row 3 p5))] } (fun e S' => match e with | .normal => LS_L13_11 g37 g44 g46 N n S' K | e => K e S') = LP_L13_11 g37 g44 g46 N (n + 1) [.d (.sl 58 p0), .d (.int .i64 p1), .d (.int .i64 p2), .d (.int .i64 p3), .d (.int .i64 p4), .d (.sl 3 p5)] K := by kernel_rfl
theorem m_L13_11 (g37 : TF37) (g44 : TF44) (g46 : TF46) (ps : List (Pv A)) : (∀ (N n : Nat) (R : Type) (K : Ex → St A → Option R), LP_L13_11 g37 g44 g46 N n ps K = none) ∨ ∃ (p0 : List (G_Contact)) (p1 : Int) (p2 : Int) (p3 : Int) (p4 : Int) (p5 : List (Int)), ps = [.d (.sl 58 p0), .d (.int .i64 p1), .d (.int .i64 p2), .d (.int .i64 p3), .d (.int .i64 p4), .d (.sl 3 p5)] := by
  by_cases h : ∃ (p0 : List (G_Contact)) (p1 : Int) (p2 : Int) (p3 : Int) (p4 : Int) (p5 : List (Int)), ps = [.d (.sl 58 p0), .d (.int .i64 p1), .d (.int .i64 p2), .d (.int .i64 p3), .d (.int .i64 p4), .d (.sl 3 p5)]
  · exact .inr h
  · refine .inl (fun N n R K => ?_)
    unfold LP_L13_11
    split
    · exact absurd ⟨_, _, _, _, _, _, rfl⟩ h
    · rfl
theorem s_L13_11 (g37 : TF37) (g44 : TF44) (g46 : TF46) (N n : Nat) (S : St A) : (∀ (R : Type) (K : Ex → St A → Option R), LS_L13_11 g37 g44 g46 N (n + 1) S K = none) ∨ ∀ (R : Type) (K : Ex → St A → Option R), LS_L13_11 g37 g44 g46 N (n + 1) S K = bd_L13_11 g37 g44 g46 N S (fun e S' => match e with | .normal => LS_L13_11 g37 g44 g46 N n S' K | e => K e S') := by
  cases hd : decSt sh_L13_11 S with
  | none => exact .inl (fun R K => by unfold LS_L13_11; rw [hd])
  | some ps =>
    have he := decSt_enc hd
    rcases m_L13_11 g37 g44 g46 ps with h | ⟨p0, p1, p2, p3, p4, p5, rfl⟩
    · exact .inl (fun R K => by unfold LS_L13_11; rw [hd]; exact h N (n + 1) R K)
    · have hS : encSt (A := A) sh_L13_11 [.d (.sl 58 p0), .d (.int .i64 p1), .d (.int .i64 p2), .d (.int .i64 p3), .d (.int .i64 p4), .d (.sl 3 p5)] = some { fr := sparse .undef 54 [(3, .ptr 0 0), (8, .own 3 1), (31, .d (.sl 58 p0)), (32, .d (.int .i64 p1)), (33, .d (.int .i64 p2))], st := sparse none 3 [(0, some (.box [.d (.int .i64 p3), .d (.int .i64 p4)])), (1, some (.row 3 p5))] } := by kernel_rfl
      rw [hS] at he
      obtain rfl := Option.some.inj he
      refine .inr (fun R K => ?_)
      rw [b_L13_11]
      unfold LS_L13_11
      rw [hd]
theorem z_L13_11 (g37 : TF37) (g44 : TF44) (g46 : TF46) (N : Nat) (R : Type) (S : St A) (K : Ex → St A → Option R) : LS_L13_11 g37 g44 g46 N 0 S K = none := by
  unfold LS_L13_11
  cases decSt sh_L13_11 S with
  | none => rfl
  | some ps =>
    simp only
    unfold LP_L13_11
    split <;> (try unfold L13_11) <;> rfl
theorem en_13 : Enters Tryz.prog 13 := enters_of (fn := Tryz.f13) (by kernel_rfl) (by kernel_rfl) (by kernel_rfl)
theorem en_F13 : Enters Tryz.prog 13 := en_13
theorem tl_F13 (N : Nat) : TabL Tryz.prog T (C_F13 N) := (.cons (fs_F37 N) en_F37 (.cons (fs_F44 N) en_F44 (.cons (fs_F46 N) en_F46 .nil)))
theorem nl_F13 (N : Nat) : NatL (C_F13 N) := (.cons (na_F37 N) (.cons (na_F44 N) (.cons (na_F46 N) .nil)))
theorem ct_F13 (N : Nat) : NatTab (E_F13 N).C := tab_nat (l := C_F13 N) (nl_F13 N)
theorem eo_F13 (N : Nat) : EnvOk (E_F13 N) := ⟨tyOk Tryz.prog, tab_sound (l := C_F13 N) (tl_F13 N), flatOk, keysOk⟩
theorem ll_L13_11 : loopsOf cb_L13_11 = [] := by kernel_rfl
theorem fi_L13_11 (N : Nat) : FineL (E_F13 N) N [] := .nil
theorem cc_L13_11 (N : Nat) : CutsOk (E_F13 N) N cb_L13_11 := cuts_of (fun _ => rfl) cb_L13_11 (by rw [ll_L13_11]; exact fi_L13_11 N)
theorem cg_L13_11 (g37 : TF37) (g44 : TF44) (g46 : TF46) (N : Nat) : (firstReg cb_L13_11).bind (E_F13_ g37 g44 g46 N).cutL = some (LS_L13_11 g37 g44 g46 N N) := by kernel_rfl
theorem ce_L13_11 (N : Nat) : (firstReg cb_L13_11).bind (E_F13 N).cutL = some (LS_L13_11 (@F37 N) (@F44 N) (@F46 N) N N) := cg_L13_11 (@F37 N) (@F44 N) (@F46 N) N
theorem lf_L13_11 (N : Nat) : LoopFine (E_F13 N) N cb_L13_11 := fine_of (LS_L13_11 (@F37 N) (@F44 N) (@F46 N) N) (ce_L13_11 N) (ct_F13 N) (cc_L13_11 N) (z_L13_11 (@F37 N) (@F44 N) (@F46 N) N) (s_L13_11 (@F37 N) (@F44 N) (@F46 N) N)
theorem ll_F13 : loopsOf code_13 = [cb_L13_11] := by kernel_rfl
theorem fi_F13 (N : Nat) : FineL (E_F13 N) N [cb_L13_11] := (.cons (lf_L13_11 N) .nil)
theorem cc_F13 (N : Nat) : CutsOk (E_F13 N) N code_13 := cuts_of (fun _ => rfl) code_13 (by rw [ll_F13]; exact fi_F13 N)
theorem v_F13 (args : List (IV A)) : (∀ (N : Nat) (R : Type) (k : IV A → List (IV A) → Option R), S_F13 N args k = none) ∨ ∃ (a1 : List (G_Contact)) (a2 : Int) (a3 : Int), args = [.d (.sl 58 a1), .agg [.d (.int .i64 a2), .d (.int .i64 a3)]] := by
  by_cases h : ∃ (a1 : List (G_Contact)) (a2 : Int) (a3 : Int), args = [.d (.sl 58 a1), .agg [.d (.int .i64 a2), .d (.int .i64 a3)]]
  · exact .inr h
  · refine .inl (fun N R k => ?_)
    unfold S_F13 SS_F13
    split
    · exact absurd ⟨_, _, _, rfl⟩ h
    · rfl
theorem sm_F13 (N : Nat) : Same (S_F13 N) (abody (E_F13 N) Tryz.f13 code_13 3 [] [.arr 3, .asis] N) := by
  intro args
  rcases v_F13 args with h | ⟨a1, a2, a3, rfl⟩
  · exact .inl (h N)
  · exact .inr (fun R k => (t_F13 N a1 a2 a3 R k).symm)
theorem fu_13 : Tryz.prog.funcs[13]? = some Tryz.f13 := by kernel_rfl
theorem bo_13 : Tryz.f13.body = some code_13 := by kernel_rfl
theorem fs_F13 (N : Nat) : FnSound Tryz.prog T 13 (S_F13 N) := fs_of (E_F13 N) rfl rfl (eo_F13 N) (ct_F13 N) mixed fu_13 bo_13 3 [] [.arr 3, .asis] N (cc_F13 N) (sm_F13 N)
theorem na_F13 (N : Nat) : NatSpec (S_F13 N) := na_of (E_F13 N) (ct_F13 N) Tryz.f13 code_13 3 [] [.arr 3, .asis] N (cc_F13 N) (sm_F13 N)
abbrev TF47 : Type 1 := Int → Int → Int → {R : Type} → (Bool → Option R) → Option R
def F47_ (N : Nat) (a1 : Int) (a2 : Int) (a3 : Int) {R : Type} (k0 : Bool → Option R) : Option R :=
  (bif (decide (a2 ≤ a1)) then k0 ((decide (a1 ≤ a3))) else k0 false)
def F47 (N : Nat) : TF47 := @F47_ N
def p_F47 (args : List (IV A)) : Bool := match args with | [.d (.int .i64 _), .d (.int .i64 _), .d (.int .i64 _)] => true | _ => false
def SS_F47 (g : TF47) : Spec A := fun args _ k => match args with | [.d (.int .i64 a1), .d (.int .i64 a2), .d (.int .i64 a3)] => g a1 a2 a3 (fun z0 => k (.d (.bool z0)) [.undef, .undef, .undef]) | _ => none
def S_F47 (N : Nat) : Spec A := SS_F47 (F47 N)
noncomputable def code_47 : Code := (Tryz.f47.body).getD .skip
def C_F47_ : List (Nat × Spec A) := []
def C_F47 (N : Nat) : List (Nat × Spec A) := C_F47_
noncomputable def E_F47_ (N : Nat) : Env A := { P := Tryz.prog, T := T, C := fun f => (C_F47_).lookup f, tg := fun d => ([].lookup d).getD [], seqH := fun _ => none, loopH := fun i => [].lookup i, exitH := fun i => [].lookup i, cutL := fun _ => none, mode := fun f i => [].contains (f, i), keyed := keyT, flat := flatT, pin := [] }
noncomputable def E_F47 (N : Nat) : Env A := E_F47_ N
theorem tg_F47 (N : Nat) (a1 : Int) (a2 : Int) (a3 : Int) (R : Type) (k : IV A → List (IV A) → Option R) : abody (E_F47_ N) Tryz.f47 code_47 0 [] [.asis] N [.d (.int .i64 a1), .d (.int .i64 a2), .d (.int .i64 a3)] k = SS_F47 (@F47_ N) [.d (.int .i64 a1), .d (.int .i64 a2), .d (.int .i64 a3)] k := by kernel_rfl
theorem t_F47 (N : Nat) (a1 : Int) (a2 : Int) (a3 : Int) (R : Type) (k : IV A → List (IV A) → Option R) : abody (E_F47 N) Tryz.f47 code_47 0 [] [.asis] N [.d (.int .i64 a1), .d (.int .i64 a2), .d (.int .i64 a3)] k = S_F47 N [.d (.int .i64 a1), .d (.int .i64 a2), .d (.int .i64 a3)] k := tg_F47 N a1 a2 a3 R k
theorem en_47 : Enters Tryz.prog 47 := enters_of (fn := Tryz.f47) (by kernel_rfl) (by kernel_rfl) (by kernel_rfl)
theorem en_F47 : Enters Tryz.prog 47 := en_47
theorem tl_F47 (N : Nat) : TabL Tryz.prog T (C_F47 N) := .nil
theorem nl_F47 (N : Nat) : NatL (C_F47 N) := .nil
theorem ct_F47 (N : Nat) : NatTab (E_F47 N).C := tab_nat (l := C_F47 N) (nl_F47 N)
theorem eo_F47 (N : Nat) : EnvOk (E_F47 N) := ⟨tyOk Tryz.prog, tab_sound (l := C_F47 N) (tl_F47 N), flatOk, keysOk⟩
theorem ll_F47 : loopsOf code_47 = [] := by kernel_rfl
theorem fi_F47 (N : Nat) : FineL (E_F47 N) N [] := .nil
theorem cc_F47 (N : Nat) : CutsOk (E_F47 N) N code_47 := cuts_of (fun _ => rfl) code_47 (by rw [ll_F47]; exact fi_F47 N)
theorem v_F47 (args : List (IV A)) : (∀ (N : Nat) (R : Type) (k : IV A → List (IV A) → Option R), S_F47 N args k = none) ∨ ∃ (a1 : Int) (a2 : Int) (a3 : Int), args = [.d (.int .i64 a1), .d (.int .i64 a2), .d (.int .i64 a3)] := by
  by_cases h : ∃ (a1 : Int) (a2 : Int) (a3 : Int), args = [.d (.int .i64 a1), .d (.int .i64 a2), .d (.int .i64 a3)]
  · exact .inr h
  · refine .inl (fun N R k => ?_)
    unfold S_F47 SS_F47
    split
    · exact absurd ⟨_, _, _, rfl⟩ h
    · rfl
theorem sm_F47 (N : Nat) : Same (S_F47 N) (abody (E_F47 N) Tryz.f47 code_47 0 [] [.asis] N) := by
  intro args
  rcases v_F47 args with h | ⟨a1, a2, a3, rfl⟩
  · exact .inl (h N)
  · exact .inr (fun R k => (t_F47 N a1 a2 a3 R k).symm)
theorem fu_47 : Tryz.prog.funcs[47]? = some Tryz.f47 := by kernel_rfl
theorem bo_47 : Tryz.f47.body = some code_47 := by kernel_rfl
theorem fs_F47 (N : Nat) : FnSound Tryz.prog T 47 (S_F47 N) := fs_of (E_F47 N) rfl rfl (eo_F47 N) (ct_F47 N) mixed fu_47 bo_47 0 [] [.asis] N (cc_F47 N) (sm_F47 N)
theorem na_F47 (N : Nat) : NatSpec (S_F47 N) := na_of (E_F47 N) (ct_F47 N) Tryz.f47 code_47 0 [] [.asis] N (cc_F47 N) (sm_F47 N)
abbrev TF69 : Type 1 := Int → {R : Type} → (Bool → Option R) → Option R
def F69_ (g47 : TF47) (N : Nat) (a1 : Int) {R : Type} (k0 : Bool → Option R) : Option R :=
  (g47 a1 0 345686399999 (fun r2 => k0 r2))
def F69 (N : Nat) : TF69 := @F69_ (@F47 N) N
def p_F69 (args : List (IV A)) : Bool := match args with | [.d (.int .i64 _)] => true | _ => false
def SS_F69 (g : TF69) : Spec A := fun args _ k => match args with | [.d (.int .i64 a1)] => g a1 (fun z0 => k (.d (.bool z0)) [.undef]) | _ => none
def S_F69 (N : Nat) : Spec A := SS_F69 (F69 N)
noncomputable def code_69 : Code := (Tryz.f69.body).getD .skip
def C_F69_ (g47 : TF47) : List (Nat × Spec A) := [(47, SS_F47 g47)]
def C_F69 (N : Nat) : List (Nat × Spec A) := C_F69_ (@F47 N)
noncomputable def E_F69_ (g47 : TF47) (N : Nat) : Env A := { P := Tryz.prog, T := T, C := fun f => (C_F69_ g47).lookup f, tg := fun d => ([].lookup d).getD [], seqH := fun _ => none, loopH := fun i => [].lookup i, exitH := fun i => [].lookup i, cutL := fun _ => none, mode := fun f i => [].contains (f, i), keyed := keyT, flat := flatT, pin := [] }
noncomputable def E_F69 (N : Nat) : Env A := E_F69_ (@F47 N) N
theorem tg_F69 (g47 : TF47) (N : Nat) (a1 : Int) (R : Type) (k : IV A → List (IV A) → Option R) : abody (E_F69_ g47 N) Tryz.f69 code_69 0 [] [.asis] N [.d (.int .i64 a1)] k = SS_F69 (@F69_ g47 N) [.d (.int .i64 a1)] k := by kernel_rfl
theorem t_F69 (N : Nat) (a1 : Int) (R : Type) (k : IV A → List (IV A) → Option R) : abody (E_F69 N) Tryz.f69 code_69 0 [] [.asis] N [.d (.int .i64 a1)] k = S_F69 N [.d (.int .i64 a1)] k := tg_F69 (@F47 N) N a1 R k
theorem en_69 : Enters Tryz.prog 69 := enters_of (fn := Tryz.f69) (by kernel_rfl) (by kernel_rfl) (by kernel_rfl)
theorem en_F69 : Enters Tryz.prog 69 := en_69
theorem tl_F69 (N : Nat) : TabL Tryz.prog T (C_F69 N) := (.cons (fs_F47 N) en_F47 .nil)
theorem nl_F69 (N : Nat) : NatL (C_F69 N) := (.cons (na_F47 N) .nil)
theorem ct_F69 (N : Nat) : NatTab (E_F69 N).C := tab_nat (l := C_F69 N) (nl_F69 N)
theorem eo_F69 (N : Nat) : EnvOk (E_F69 N) := ⟨tyOk Tryz.prog, tab_sound (l := C_F69 N) (tl_F69 N), flatOk, keysOk⟩
theorem ll_F69 : loopsOf code_69 = [] := by kernel_rfl
theorem fi_F69 (N : Nat) : FineL (E_F69 N) N [] := .nil
theorem cc_F69 (N : Nat) : CutsOk (E_F69 N) N code_69 := cuts_of (fun _ => rfl) code_69 (by rw [ll_F69]; exact fi_F69 N)
theorem v_F69 (args : List (IV A)) : (∀ (N : Nat) (R : Type) (k : IV A → List (IV A) → Option R), S_F69 N args k = none) ∨ ∃ (a1 : Int), args = [.d (.int .i64 a1)] := by
  by_cases h : ∃ (a1 : Int), args = [.d (.int .i64 a1)]
  · exact .inr h
  · refine .inl (fun N R k => ?_)
    unfold S_F69 SS_F69
    split
    · exact absurd ⟨_, rfl⟩ h
    · rfl
theorem sm_F69 (N : Nat) : Same (S_F69 N) (abody (E_F69 N) Tryz.f69 code_69 0 [] [.asis] N) := by
  intro args
  rcases v_F69 args with h | ⟨a1, rfl⟩
  · exact .inl (h N)
  · exact .inr (fun R k => (t_F69 N a1 R k).symm)
theorem fu_69 : Tryz.prog.funcs[69]? = some Tryz.f69 := by kernel_rfl
theorem bo_69 : Tryz.f69.body = some code_69 := by kernel_rfl
theorem fs_F69 (N : Nat) : FnSound Tryz.prog T 69 (S_F69 N) := fs_of (E_F69 N) rfl rfl (eo_F69 N) (ct_F69 N) mixed fu_69 bo_69 0 [] [.asis] N (cc_F69 N) (sm_F69 N)
theorem na_F69 (N : Nat) : NatSpec (S_F69 N) := na_of (E_F69 N) (ct_F69 N) Tryz.f69 code_69 0 [] [.asis] N (cc_F69 N) (sm_F69 N)
def L85_2 (g82 : TF82) : Nat → Nat → List UInt8 → List UInt8 → Int → Int → {R : Type} → (Bool → Option R) → (Option R) → Option R
  | _, 0, _, _, _, _, _, _, _ => none
  | N, n + 1, v3, v4, v5, v6, _, e0, e1 => (bif (decide (v6 < v5)) then (bif (decide (0 ≤ v6)) then (match v3[(v6 : Int).toNat]? with | some x9 => (g82 v4 (x9.toNat : Int) (fun r10 => (bif (decide (r10 < 0)) then e0 false else L85_2 g82 N n v3 v4 v5 ((IntKind.i64.wrap (v6 + 1))) e0 e1))) | none => none) else none) else e1)
abbrev TF85 : Type 1 := List UInt8 → List UInt8 → {R : Type} → (Bool → Option R) → Option R
def F85_ (g82 : TF82) (N : Nat) (a1 : List UInt8) (a2 : List UInt8) {R : Type} (k0 : Bool → Option R) : Option R :=
  (L85_2 g82 N N a1 a2 (a1.length : Int) 0 (fun e11 => k0 e11) (k0 true))
def F85 (N : Nat) : TF85 := @F85_ (@F82 N) N
def p_F85 (args : List (IV A)) : Bool := match args with | [.d (.str _), .d (.str _)] => true | _ => false
def SS_F85 (g : TF85) : Spec A := fun args _ k => match args with | [.d (.str a1), .d (.str a2)] => g a1 a2 (fun z0 => k (.d (.bool z0)) [.undef, .undef]) | _ => none
def S_F85 (N : Nat) : Spec A := SS_F85 (F85 N)
def sh_L85_2 : SSt := { fr := sparse .undef 18 [(0, .str), (1, .str), (7, .int .i64), (8, .int .i64)], st := sparse .none 0 [] }
def LP_L85_2 (g82 : TF82) (N n : Nat) (ps : List (Pv A)) {R : Type} (K : Ex → St A → Option R) : Option R := match ps with | [.d (.str p0), .d (.str p1), .d (.int .i64 p2), .d (.int .i64 p3)] => L85_2 g82 N n p0 p1 p2 p3 (fun z0 => K .ret { fr := sparse .undef 18 [(4, .d (.bool z0))], st := sparse none 0 [] }) (K (.exit 0) { fr := sparse .undef 18 [], st := sparse none 0 [] }) | _ => none
def LS_L85_2 (g82 : TF82) (N n : Nat) : Piece A := fun S _ K => match decSt sh_L85_2 S with | some ps => LP_L85_2 g82 N n ps K | none => none
noncomputable def code_85 : Code := (Tryz.f85.body).getD .skip
def C_F85_ (g82 : TF82) : List (Nat × Spec A) := [(82, SS_F82 g82)]
def C_F85 (N : Nat) : List (Nat × Spec A) := C_F85_ (@F82 N)
noncomputable def E_F85_ (g82 : TF82) (N : Nat) : Env A := { P := Tryz.prog, T := T, C := fun f => (C_F85_ g82).lookup f, tg := fun d => ([].lookup d).getD [], seqH := fun _ => none, loopH := fun i => [(2, ({ keep := [0, 1, 7, 8], canon := [], stay := [] } : Hint))].lookup i, exitH := fun i => [(2, ({ keep := [4], canon := [], stay := [] } : Hint))].lookup i, cutL := fun i => [(2, LS_L85_2 g82 N N)].lookup i, mode := fun f i => [].contains (f, i), keyed := keyT, flat := flatT, pin := [] }
noncomputable def E_F85 (N : Nat) : Env A := E_F85_ (@F82 N) N
theorem tg_F85 (g82 : TF82) (N : Nat) (a1 : List UInt8) (a2 : List UInt8) (R : Type) (k : IV A → List (IV A) → Option R) : abody (E_F85_ g82 N) Tryz.f85 code_85 0 [] [.asis] N [.d (.str a1), .d (.str a2)] k = SS_F85 (@F85_ g82 N) [.d (.str a1), .d (.str a2)] k := by kernel_rfl
theorem t_F85 (N : Nat) (a1 : List UInt8) (a2 : List UInt8) (R : Type) (k : IV A → List (IV A) → Option R) : abody (E_F85 N) Tryz.f85 code_85 0 [] [.asis] N [.d (.str a1), .d (.str a2)] k = S_F85 N [.d (.str a1), .d (.str a2)] k := tg_F85 (@F82 N) N a1 a2 R k
noncomputable def cb_L85_2 : Code := sub [1, 0, 1, 0, 0] code_85
noncomputable def bd_L85_2 (g82 : TF82) (N : Nat) : Piece A := around (fun S _ K => aexec (E_F85_ g82 N) N cb_L85_2 S K) ((firstReg cb_L85_2).bind (E_F85_ g82 N).loopH) ((firstReg cb_L85_2).bind (E_F85_ g82 N).exitH)
theorem b_L85_2 (g82 : TF82) (N n : Nat) (p0 : List UInt8) (p1 : List UInt8) (p2 : Int) (p3 : Int) (R : Type) (K : Ex → St A → Option R) : bd_L85_2 g82 N { fr := sparse .undef 18 [(0, .d (.str p0)), (1, .d (.str p1)), (7, .d (.int .i64 p2)), (8, .d (.int .i64 p3))], st := sparse none 0 [] } (fun e S' => match e with | .normal => LS_L85_2 g82 N n S' K | e => K e S') = LP_L85_2 g82 N (n + 1) [.d (.str p0), .d (.str p1), .d (.int .i64 p2), .d (.int .i64 p3)] K := by kernel_rfl
theorem m_L85_2 (g82 : TF82) (ps : List (Pv A)) : (∀ (N n : Nat) (R : Type) (K : Ex → St A → Option R), LP_L85_2 g82 N n ps K = none) ∨ ∃ (p0 : List UInt8) (p1 : List UInt8) (p2 : Int) (p3 : Int), ps = [.d (.str p0), .d (.str p1), .d (.int .i64 p2), .d (.int .i64 p3)] := by
  by_cases h : ∃ (p0 : List UInt8) (p1 : List UInt8) (p2 : Int) (p3 : Int), ps = [.d (.str p0), .d (.str p1), .d (.int .i64 p2), .d (.int .i64 p3)]
  · exact .inr h
  · refine .inl (fun N n R K => ?_)
    unfold LP_L85_2
    split
    · exact absurd ⟨_, _, _, _, rfl⟩ h
    · rfl
theorem s_L85_2 (g82 : TF82) (N n : Nat) (S : St A) : (∀ (R : Type) (K : Ex → St A → Option R), LS_L85_2 g82 N (n + 1) S K = none) ∨ ∀ (R : Type) (K : Ex → St A → Option R), LS_L85_2 g82 N (n + 1) S K = bd_L85_2 g82 N S (fun e S' => match e with | .normal => LS_L85_2 g82 N n S' K | e => K e S') := by
  cases hd : decSt sh_L85_2 S with
  | none => exact .inl (fun R K => by unfold LS_L85_2; rw [hd])
  | some ps =>
    have he := decSt_enc hd
    rcases m_L85_2 g82 ps with h | ⟨p0, p1, p2, p3, rfl⟩
    · exact .inl (fun R K => by unfold LS_L85_2; rw [hd]; exact h N (n + 1) R K)
    · have hS : encSt (A := A) sh_L85_2 [.d (.str p0), .d (.str p1), .d (.int .i64 p2), .d (.int .i64 p3)] = some { fr := sparse .undef 18 [(0, .d (.str p0)), (1, .d (.str p1)), (7, .d (.int .i64 p2)), (8, .d (.int .i64 p3))], st := sparse none 0 [] } := by kernel_rfl
      rw [hS] at he
      obtain rfl := Option.some.inj he
      refine .inr (fun R K => ?_)
      rw [b_L85_2]
      unfold LS_L85_2
      rw [hd]
theorem z_L85_2 (g82 : TF82) (N : Nat) (R : Type) (S : St A) (K : Ex → St A → Option R) : LS_L85_2 g82 N 0 S K = none := by
  unfold LS_L85_2
  cases decSt sh_L85_2 S with
  | none => rfl
  | some ps =>
    simp only
    unfold LP_L85_2
    split <;> (try unfold L85_2) <;> rfl
theorem en_85 : Enters Tryz.prog 85 := enters_of (fn := Tryz.f85) (by kernel_rfl) (by kernel_rfl) (by kernel_rfl)
theorem en_F85 : Enters Tryz.prog 85 := en_85
theorem tl_F85 (N : Nat) : TabL Tryz.prog T (C_F85 N) := (.cons (fs_F82 N) en_F82 .nil)
theorem nl_F85 (N : Nat) : NatL (C_F85 N) := (.cons (na_F82 N) .nil)
theorem ct_F85 (N : Nat) : NatTab (E_F85 N).C := tab_nat (l := C_F85 N) (nl_F85 N)
theorem eo_F85 (N : Nat) : EnvOk (E_F85 N) := ⟨tyOk Tryz.prog, tab_sound (l := C_F85 N) (tl_F85 N), flatOk, keysOk⟩
theorem ll_L85_2 : loopsOf cb_L85_2 = [] := by kernel_rfl
theorem fi_L85_2 (N : Nat) : FineL (E_F85 N) N [] := .nil
theorem cc_L85_2 (N : Nat) : CutsOk (E_F85 N) N cb_L85_2 := cuts_of (fun _ => rfl) cb_L85_2 (by rw [ll_L85_2]; exact fi_L85_2 N)
theorem cg_L85_2 (g82 : TF82) (N : Nat) : (firstReg cb_L85_2).bind (E_F85_ g82 N).cutL = some (LS_L85_2 g82 N N) := by kernel_rfl
theorem ce_L85_2 (N : Nat) : (firstReg cb_L85_2).bind (E_F85 N).cutL = some (LS_L85_2 (@F82 N) N N) := cg_L85_2 (@F82 N) N
theorem lf_L85_2 (N : Nat) : LoopFine (E_F85 N) N cb_L85_2 := fine_of (LS_L85_2 (@F82 N) N) (ce_L85_2 N) (ct_F85 N) (cc_L85_2 N) (z_L85_2 (@F82 N) N) (s_L85_2 (@F82 N) N)
theorem ll_F85 : loopsOf code_85 = [cb_L85_2] := by kernel_rfl
theorem fi_F85 (N : Nat) : FineL (E_F85 N) N [cb_L85_2] := (.cons (lf_L85_2 N) .nil)
theorem cc_F85 (N : Nat) : CutsOk (E_F85 N) N code_85 := cuts_of (fun _ => rfl) code_85 (by rw [ll_F85]; exact fi_F85 N)
theorem v_F85 (args : List (IV A)) : (∀ (N : Nat) (R : Type) (k : IV A → List (IV A) → Option R), S_F85 N args k = none) ∨ ∃ (a1 : List UInt8) (a2 : List UInt8), args = [.d (.str a1), .d (.str a2)] := by
  by_cases h : ∃ (a1 : List UInt8) (a2 : List UInt8), args = [.d (.str a1), .d (.str a2)]
  · exact .inr h
  · refine .inl (fun N R k => ?_)
    unfold S_F85 SS_F85
    split
    · exact absurd ⟨_, _, rfl⟩ h
    · rfl
theorem sm_F85 (N : Nat) : Same (S_F85 N) (abody (E_F85 N) Tryz.f85 code_85 0 [] [.asis] N) := by
  intro args
  rcases v_F85 args with h | ⟨a1, a2, rfl⟩
  · exact .inl (h N)
  · exact .inr (fun R k => (t_F85 N a1 a2 R k).symm)
theorem fu_85 : Tryz.prog.funcs[85]? = some Tryz.f85 := by kernel_rfl
theorem bo_85 : Tryz.f85.body = some code_85 := by kernel_rfl
theorem fs_F85 (N : Nat) : FnSound Tryz.prog T 85 (S_F85 N) := fs_of (E_F85 N) rfl rfl (eo_F85 N) (ct_F85 N) mixed fu_85 bo_85 0 [] [.asis] N (cc_F85 N) (sm_F85 N)
theorem na_F85 (N : Nat) : NatSpec (S_F85 N) := na_of (E_F85 N) (ct_F85 N) Tryz.f85 code_85 0 [] [.asis] N (cc_F85 N) (sm_F85 N)
abbrev TF70 : Type 1 := List UInt8 → {R : Type} → (Bool → Option R) → Option R
def F70_ (g47 : TF47) (g85 : TF85) (N : Nat) (a1 : List UInt8) {R : Type} (k0 : Bool → Option R) : Option R :=
  (g47 (a1.length : Int) 1 40 (fun r2 => (bif r2 then (bif (decide (0 ≤ 1) && decide (1 ≤ (a1.length : Int))) then (g85 ((a1.take (1 : Int).toNat)) [97, 98, 99, 100, 101, 102, 103, 104, 105, 106, 107, 108, 109, 110, 111, 112, 113, 114, 115, 116, 117, 118, 119, 120, 121, 122] (fun r3 => (bif r3 then (g85 a1 [97, 98, 99, 100, 101, 102, 103, 104, 105, 106, 107, 108, 109, 110, 111, 112, 113, 114, 115, 116, 117, 118, 119, 120, 121, 122, 48, 49, 50, 51, 52, 53, 54, 55, 56, 57, 45, 95] (fun r4 => k0 r4)) else k0 false))) else none) else k0 false)))
def F70 (N : Nat) : TF70 := @F70_ (@F47 N) (@F85 N) N
def p_F70 (args : List (IV A)) : Bool := match args with | [.d (.str _)] => true | _ => false
def SS_F70 (g : TF70) : Spec A := fun args _ k => match args with | [.d (.str a1)] => g a1 (fun z0 => k (.d (.bool z0)) [.undef]) | _ => none
def S_F70 (N : Nat) : Spec A := SS_F70 (F70 N)
noncomputable def code_70 : Code := (Tryz.f70.body).getD .skip
def C_F70_ (g47 : TF47) (g85 : TF85) : List (Nat × Spec A) := [(47, SS_F47 g47), (85, SS_F85 g85)]
def C_F70 (N : Nat) : List (Nat × Spec A) := C_F70_ (@F47 N) (@F85 N)
noncomputable def E_F70_ (g47 : TF47) (g85 : TF85) (N : Nat) : Env A := { P := Tryz.prog, T := T, C := fun f => (C_F70_ g47 g85).lookup f, tg := fun d => ([].lookup d).getD [], seqH := fun _ => none, loopH := fun i => [].lookup i, exitH := fun i => [].lookup i, cutL := fun _ => none, mode := fun f i => [].contains (f, i), keyed := keyT, flat := flatT, pin := [] }
noncomputable def E_F70 (N : Nat) : Env A := E_F70_ (@F47 N) (@F85 N) N
theorem tg_F70 (g47 : TF47) (g85 : TF85) (N : Nat) (a1 : List UInt8) (R : Type) (k : IV A → List (IV A) → Option R) : abody (E_F70_ g47 g85 N) Tryz.f70 code_70 0 [] [.asis] N [.d (.str a1)] k = SS_F70 (@F70_ g47 g85 N) [.d (.str a1)] k := by kernel_rfl
theorem t_F70 (N : Nat) (a1 : List UInt8) (R : Type) (k : IV A → List (IV A) → Option R) : abody (E_F70 N) Tryz.f70 code_70 0 [] [.asis] N [.d (.str a1)] k = S_F70 N [.d (.str a1)] k := tg_F70 (@F47 N) (@F85 N) N a1 R k
theorem en_70 : Enters Tryz.prog 70 := enters_of (fn := Tryz.f70) (by kernel_rfl) (by kernel_rfl) (by kernel_rfl)
theorem en_F70 : Enters Tryz.prog 70 := en_70
theorem tl_F70 (N : Nat) : TabL Tryz.prog T (C_F70 N) := (.cons (fs_F47 N) en_F47 (.cons (fs_F85 N) en_F85 .nil))
theorem nl_F70 (N : Nat) : NatL (C_F70 N) := (.cons (na_F47 N) (.cons (na_F85 N) .nil))
theorem ct_F70 (N : Nat) : NatTab (E_F70 N).C := tab_nat (l := C_F70 N) (nl_F70 N)
theorem eo_F70 (N : Nat) : EnvOk (E_F70 N) := ⟨tyOk Tryz.prog, tab_sound (l := C_F70 N) (tl_F70 N), flatOk, keysOk⟩
theorem ll_F70 : loopsOf code_70 = [] := by kernel_rfl
theorem fi_F70 (N : Nat) : FineL (E_F70 N) N [] := .nil
theorem cc_F70 (N : Nat) : CutsOk (E_F70 N) N code_70 := cuts_of (fun _ => rfl) code_70 (by rw [ll_F70]; exact fi_F70 N)
theorem v_F70 (args : List (IV A)) : (∀ (N : Nat) (R : Type) (k : IV A → List (IV A) → Option R), S_F70 N args k = none) ∨ ∃ (a1 : List UInt8), args = [.d (.str a1)] := by
  by_cases h : ∃ (a1 : List UInt8), args = [.d (.str a1)]
  · exact .inr h
  · refine .inl (fun N R k => ?_)
    unfold S_F70 SS_F70
    split
    · exact absurd ⟨_, rfl⟩ h
    · rfl
theorem sm_F70 (N : Nat) : Same (S_F70 N) (abody (E_F70 N) Tryz.f70 code_70 0 [] [.asis] N) := by
  intro args
  rcases v_F70 args with h | ⟨a1, rfl⟩
  · exact .inl (h N)
  · exact .inr (fun R k => (t_F70 N a1 R k).symm)
theorem fu_70 : Tryz.prog.funcs[70]? = some Tryz.f70 := by kernel_rfl
theorem bo_70 : Tryz.f70.body = some code_70 := by kernel_rfl
theorem fs_F70 (N : Nat) : FnSound Tryz.prog T 70 (S_F70 N) := fs_of (E_F70 N) rfl rfl (eo_F70 N) (ct_F70 N) mixed fu_70 bo_70 0 [] [.asis] N (cc_F70 N) (sm_F70 N)
theorem na_F70 (N : Nat) : NatSpec (S_F70 N) := na_of (E_F70 N) (ct_F70 N) Tryz.f70 code_70 0 [] [.asis] N (cc_F70 N) (sm_F70 N)
abbrev TF111 : Type 1 := Int → Int → Int → {R : Type} → (Bool → Option R) → Option R
def F111_ (N : Nat) (a1 : Int) (a2 : Int) (a3 : Int) {R : Type} (k0 : Bool → Option R) : Option R :=
  (bif (decide (a2 ≤ a1)) then k0 ((decide (a1 ≤ a3))) else k0 false)
def F111 (N : Nat) : TF111 := @F111_ N
def p_F111 (args : List (IV A)) : Bool := match args with | [.d (.int .i64 _), .d (.int .i64 _), .d (.int .i64 _)] => true | _ => false
def SS_F111 (g : TF111) : Spec A := fun args _ k => match args with | [.d (.int .i64 a1), .d (.int .i64 a2), .d (.int .i64 a3)] => g a1 a2 a3 (fun z0 => k (.d (.bool z0)) [.undef, .undef, .undef]) | _ => none
def S_F111 (N : Nat) : Spec A := SS_F111 (F111 N)
noncomputable def code_111 : Code := (Tryz.f111.body).getD .skip
def C_F111_ : List (Nat × Spec A) := []
def C_F111 (N : Nat) : List (Nat × Spec A) := C_F111_
noncomputable def E_F111_ (N : Nat) : Env A := { P := Tryz.prog, T := T, C := fun f => (C_F111_).lookup f, tg := fun d => ([].lookup d).getD [], seqH := fun _ => none, loopH := fun i => [].lookup i, exitH := fun i => [].lookup i, cutL := fun _ => none, mode := fun f i => [].contains (f, i), keyed := keyT, flat := flatT, pin := [] }
noncomputable def E_F111 (N : Nat) : Env A := E_F111_ N
theorem tg_F111 (N : Nat) (a1 : Int) (a2 : Int) (a3 : Int) (R : Type) (k : IV A → List (IV A) → Option R) : abody (E_F111_ N) Tryz.f111 code_111 0 [] [.asis] N [.d (.int .i64 a1), .d (.int .i64 a2), .d (.int .i64 a3)] k = SS_F111 (@F111_ N) [.d (.int .i64 a1), .d (.int .i64 a2), .d (.int .i64 a3)] k := by kernel_rfl
theorem t_F111 (N : Nat) (a1 : Int) (a2 : Int) (a3 : Int) (R : Type) (k : IV A → List (IV A) → Option R) : abody (E_F111 N) Tryz.f111 code_111 0 [] [.asis] N [.d (.int .i64 a1), .d (.int .i64 a2), .d (.int .i64 a3)] k = S_F111 N [.d (.int .i64 a1), .d (.int .i64 a2), .d (.int .i64 a3)] k := tg_F111 N a1 a2 a3 R k
theorem en_111 : Enters Tryz.prog 111 := enters_of (fn := Tryz.f111) (by kernel_rfl) (by kernel_rfl) (by kernel_rfl)
theorem en_F111 : Enters Tryz.prog 111 := en_111
theorem tl_F111 (N : Nat) : TabL Tryz.prog T (C_F111 N) := .nil
theorem nl_F111 (N : Nat) : NatL (C_F111 N) := .nil
theorem ct_F111 (N : Nat) : NatTab (E_F111 N).C := tab_nat (l := C_F111 N) (nl_F111 N)
theorem eo_F111 (N : Nat) : EnvOk (E_F111 N) := ⟨tyOk Tryz.prog, tab_sound (l := C_F111 N) (tl_F111 N), flatOk, keysOk⟩
theorem ll_F111 : loopsOf code_111 = [] := by kernel_rfl
theorem fi_F111 (N : Nat) : FineL (E_F111 N) N [] := .nil
theorem cc_F111 (N : Nat) : CutsOk (E_F111 N) N code_111 := cuts_of (fun _ => rfl) code_111 (by rw [ll_F111]; exact fi_F111 N)
theorem v_F111 (args : List (IV A)) : (∀ (N : Nat) (R : Type) (k : IV A → List (IV A) → Option R), S_F111 N args k = none) ∨ ∃ (a1 : Int) (a2 : Int) (a3 : Int), args = [.d (.int .i64 a1), .d (.int .i64 a2), .d (.int .i64 a3)] := by
  by_cases h : ∃ (a1 : Int) (a2 : Int) (a3 : Int), args = [.d (.int .i64 a1), .d (.int .i64 a2), .d (.int .i64 a3)]
  · exact .inr h
  · refine .inl (fun N R k => ?_)
    unfold S_F111 SS_F111
    split
    · exact absurd ⟨_, _, _, rfl⟩ h
    · rfl
theorem sm_F111 (N : Nat) : Same (S_F111 N) (abody (E_F111 N) Tryz.f111 code_111 0 [] [.asis] N) := by
  intro args
  rcases v_F111 args with h | ⟨a1, a2, a3, rfl⟩
  · exact .inl (h N)
  · exact .inr (fun R k => (t_F111 N a1 a2 a3 R k).symm)
theorem fu_111 : Tryz.prog.funcs[111]? = some Tryz.f111 := by kernel_rfl
theorem bo_111 : Tryz.f111.body = some code_111 := by kernel_rfl
theorem fs_F111 (N : Nat) : FnSound Tryz.prog T 111 (S_F111 N) := fs_of (E_F111 N) rfl rfl (eo_F111 N) (ct_F111 N) mixed fu_111 bo_111 0 [] [.asis] N (cc_F111 N) (sm_F111 N)
theorem na_F111 (N : Nat) : NatSpec (S_F111 N) := na_of (E_F111 N) (ct_F111 N) Tryz.f111 code_111 0 [] [.asis] N (cc_F111 N) (sm_F111 N)
end Go.Am
