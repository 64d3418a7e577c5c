/- The functions of the program as Lean functions, each shown to be what the code computes, part 3. No condition: lemmas for the claim. -/
import Derived.Test.YthfphbbhjodbcaaGreatDoorF0
import Derived.Test.YthfphbbhjodbcaaGreatDoorFSh
import Derived.Test.YthfphbbhjodbcaaGreatDoorF1
import Derived.Test.YthfphbbhjodbcaaGreatDoorF2
set_option linter.unusedVariables false
set_option maxRecDepth 100000
namespace Go.Am
open Go Go.Proofs
abbrev TF38 : Type 1 := List (G_Contact) → {R : Type} → (List (G_Contact) → Option R) → Option R
def F38_ (g72 : TF72) (N : Nat) (a1 : List (G_Contact)) {R : Type} (k0 : List (G_Contact) → Option R) : Option R :=
  (g72 a1 (a1.length : Int) (fun r2 => k0 r2))
def F38 (N : Nat) : TF38 := @F38_ (@F72 N) N
def p_F38 (args : List (IV A)) : Bool := match args with | [.arr 58 _, .fn 39 []] => true | _ => false
def SS_F38 (g : TF38) : Spec A := fun args _ k => match args with | [.arr 58 a1, .fn 39 []] => g a1 (fun z0 => k (.tup []) [.arr 58 z0, .fn 39 []]) | _ => none
def S_F38 (N : Nat) : Spec A := SS_F38 (F38 N)
noncomputable def code_38 : Code := (Tryz.f38.body).getD .skip
def C_F38_ (g72 : TF72) : List (Nat × Spec A) := [(72, SS_F72 g72)]
def C_F38 (N : Nat) : List (Nat × Spec A) := C_F38_ (@F72 N)
noncomputable def E_F38_ (g72 : TF72) (N : Nat) : Env A := { P := Tryz.prog, T := T, C := fun f => (C_F38_ g72).lookup f, tg := fun d => ([].lookup d).getD [], seqH := fun _ => none, loopH := fun i => [].lookup i, exitH := fun i => [].lookup i, cutL := fun _ => none, mode := fun f i => [(72, 0)].contains (f, i), keyed := keyT, flat := flatT, pin := [0, 1] }
noncomputable def E_F38 (N : Nat) : Env A := E_F38_ (@F72 N) N
theorem tg_F38 (g72 : TF72) (N : Nat) (a1 : List (G_Contact)) (R : Type) (k : IV A → List (IV A) → Option R) : abody (E_F38_ g72 N) Tryz.f38 code_38 1 [0] [] N [.arr 58 a1, .fn 39 []] k = SS_F38 (@F38_ g72 N) [.arr 58 a1, .fn 39 []] k := by kernel_rfl
theorem t_F38 (N : Nat) (a1 : List (G_Contact)) (R : Type) (k : IV A → List (IV A) → Option R) : abody (E_F38 N) Tryz.f38 code_38 1 [0] [] N [.arr 58 a1, .fn 39 []] k = S_F38 N [.arr 58 a1, .fn 39 []] k := tg_F38 (@F72 N) N a1 R k
theorem en_38 : Enters Tryz.prog 38 := enters_of (fn := Tryz.f38) (by kernel_rfl) (by kernel_rfl) (by kernel_rfl)
theorem en_F38 : Enters Tryz.prog 38 := en_38
theorem tl_F38 (N : Nat) : TabL Tryz.prog T (C_F38 N) := (.cons (fs_F72 N) en_F72 .nil)
theorem nl_F38 (N : Nat) : NatL (C_F38 N) := (.cons (na_F72 N) .nil)
theorem ct_F38 (N : Nat) : NatTab (E_F38 N).C := tab_nat (l := C_F38 N) (nl_F38 N)
theorem eo_F38 (N : Nat) : EnvOk (E_F38 N) := ⟨tyOk Tryz.prog, tab_sound (l := C_F38 N) (tl_F38 N), flatOk, keysOk⟩
theorem ll_F38 : loopsOf code_38 = [] := by kernel_rfl
theorem fi_F38 (N : Nat) : FineL (E_F38 N) N [] := .nil
theorem cc_F38 (N : Nat) : CutsOk (E_F38 N) N code_38 := cuts_of (fun _ => rfl) code_38 (by rw [ll_F38]; exact fi_F38 N)
theorem v_F38 (args : List (IV A)) : (∀ (N : Nat) (R : Type) (k : IV A → List (IV A) → Option R), S_F38 N args k = none) ∨ ∃ (a1 : List (G_Contact)), args = [.arr 58 a1, .fn 39 []] := by
  by_cases h : ∃ (a1 : List (G_Contact)), args = [.arr 58 a1, .fn 39 []]
  · exact .inr h
  · refine .inl (fun N R k => ?_)
    unfold S_F38 SS_F38
    split
    · exact absurd ⟨_, rfl⟩ h
    · rfl
theorem sm_F38 (N : Nat) : Same (S_F38 N) (abody (E_F38 N) Tryz.f38 code_38 1 [0] [] N) := by
  intro args
  rcases v_F38 args with h | ⟨a1, rfl⟩
  · exact .inl (h N)
  · exact .inr (fun R k => (t_F38 N a1 R k).symm)
theorem fu_38 : Tryz.prog.funcs[38]? = some Tryz.f38 := by kernel_rfl
theorem bo_38 : Tryz.f38.body = some code_38 := by kernel_rfl
theorem fs_F38 (N : Nat) : FnSound Tryz.prog T 38 (S_F38 N) := fs_of (E_F38 N) rfl rfl (eo_F38 N) (ct_F38 N) mixed fu_38 bo_38 1 [0] [] N (cc_F38 N) (sm_F38 N)
theorem na_F38 (N : Nat) : NatSpec (S_F38 N) := na_of (E_F38 N) (ct_F38 N) Tryz.f38 code_38 1 [0] [] N (cc_F38 N) (sm_F38 N)
abbrev TF41 : Type 1 := Int → Int → List UInt8 → List UInt8 → Int → Int → List UInt8 → List UInt8 → Int → Int → List UInt8 → List UInt8 → Int → Int → List UInt8 → List UInt8 → {R : Type} → (Bool → Option R) → Option R
def F41_ (g39 : TF39) (N : Nat) (a1 : Int) (a2 : Int) (a3 : List UInt8) (a4 : List UInt8) (a5 : Int) (a6 : Int) (a7 : List UInt8) (a8 : List UInt8) (a9 : Int) (a10 : Int) (a11 : List UInt8) (a12 : List UInt8) (a13 : Int) (a14 : Int) (a15 : List UInt8) (a16 : List UInt8) {R : Type} (k0 : Bool → Option R) : Option R :=
  (g39 a1 a2 a3 a4 a5 a6 a7 a8 a9 a10 a11 a12 a13 a14 a15 a16 (fun r17 => k0 (r17 == 0)))
def F41 (N : Nat) : TF41 := @F41_ (@F39 N) N
def p_F41 (args : List (IV A)) : Bool := match args with | [.agg [.d (.int .i64 _), .d (.int .i64 _), .d (.str _), .d (.str _), .d (.int .i64 _), .d (.int .i64 _), .d (.str _), .d (.str _)], .agg [.d (.int .i64 _), .d (.int .i64 _), .d (.str _), .d (.str _), .d (.int .i64 _), .d (.int .i64 _), .d (.str _), .d (.str _)]] => true | _ => false
def SS_F41 (g : TF41) : Spec A := fun args _ k => match args with | [.agg [.d (.int .i64 a1), .d (.int .i64 a2), .d (.str a3), .d (.str a4), .d (.int .i64 a5), .d (.int .i64 a6), .d (.str a7), .d (.str a8)], .agg [.d (.int .i64 a9), .d (.int .i64 a10), .d (.str a11), .d (.str a12), .d (.int .i64 a13), .d (.int .i64 a14), .d (.str a15), .d (.str a16)]] => g a1 a2 a3 a4 a5 a6 a7 a8 a9 a10 a11 a12 a13 a14 a15 a16 (fun z0 => k (.d (.bool z0)) [.undef, .undef]) | _ => none
def S_F41 (N : Nat) : Spec A := SS_F41 (F41 N)
noncomputable def code_41 : Code := (Tryz.f41.body).getD .skip
def C_F41_ (g39 : TF39) : List (Nat × Spec A) := [(39, SS_F39 g39)]
def C_F41 (N : Nat) : List (Nat × Spec A) := C_F41_ (@F39 N)
noncomputable def E_F41_ (g39 : TF39) (N : Nat) : Env A := { P := Tryz.prog, T := T, C := fun f => (C_F41_ g39).lookup f, tg := fun d => ([(2, [0]), (3, [1])].lookup d).getD [], seqH := fun _ => none, loopH := fun i => [].lookup i, exitH := fun i => [].lookup i, cutL := fun _ => none, mode := fun f i => [].contains (f, i), keyed := keyT, flat := flatT, pin := [] }
noncomputable def E_F41 (N : Nat) : Env A := E_F41_ (@F39 N) N
theorem tg_F41 (g39 : TF39) (N : Nat) (a1 : Int) (a2 : Int) (a3 : List UInt8) (a4 : List UInt8) (a5 : Int) (a6 : Int) (a7 : List UInt8) (a8 : List UInt8) (a9 : Int) (a10 : Int) (a11 : List UInt8) (a12 : List UInt8) (a13 : Int) (a14 : Int) (a15 : List UInt8) (a16 : List UInt8) (R : Type) (k : IV A → List (IV A) → Option R) : abody (E_F41_ g39 N) Tryz.f41 code_41 2 [] [.asis] N [.agg [.d (.int .i64 a1), .d (.int .i64 a2), .d (.str a3), .d (.str a4), .d (.int .i64 a5), .d (.int .i64 a6), .d (.str a7), .d (.str a8)], .agg [.d (.int .i64 a9), .d (.int .i64 a10), .d (.str a11), .d (.str a12), .d (.int .i64 a13), .d (.int .i64 a14), .d (.str a15), .d (.str a16)]] k = SS_F41 (@F41_ g39 N) [.agg [.d (.int .i64 a1), .d (.int .i64 a2), .d (.str a3), .d (.str a4), .d (.int .i64 a5), .d (.int .i64 a6), .d (.str a7), .d (.str a8)], .agg [.d (.int .i64 a9), .d (.int .i64 a10), .d (.str a11), .d (.str a12), .d (.int .i64 a13), .d (.int .i64 a14), .d (.str a15), .d (.str a16)]] k := by kernel_rfl
theorem t_F41 (N : Nat) (a1 : Int) (a2 : Int) (a3 : List UInt8) (a4 : List UInt8) (a5 : Int) (a6 : Int) (a7 : List UInt8) (a8 : List UInt8) (a9 : Int) (a10 : Int) (a11 : List UInt8) (a12 : List UInt8) (a13 : Int) (a14 : Int) (a15 : List UInt8) (a16 : List UInt8) (R : Type) (k : IV A → List (IV A) → Option R) : abody (E_F41 N) Tryz.f41 code_41 2 [] [.asis] N [.agg [.d (.int .i64 a1), .d (.int .i64 a2), .d (.str a3), .d (.str a4), .d (.int .i64 a5), .d (.int .i64 a6), .d (.str a7), .d (.str a8)], .agg [.d (.int .i64 a9), .d (.int .i64 a10), .d (.str a11), .d (.str a12), .d (.int .i64 a13), .d (.int .i64 a14), .d (.str a15), .d (.str a16)]] k = S_F41 N [.agg [.d (.int .i64 a1), .d (.int .i64 a2), .d (.str a3), .d (.str a4), .d (.int .i64 a5), .d (.int .i64 a6), .d (.str a7), .d (.str a8)], .agg [.d (.int .i64 a9), .d (.int .i64 a10), .d (.str a11), .d (.str a12), .d (.int .i64 a13), .d (.int .i64 a14), .d (.str a15), .d (.str a16)]] k := tg_F41 (@F39 N) N a1 a2 a3 a4 a5 a6 a7 a8 a9 a10 a11 a12 a13 a14 a15 a16 R k
theorem en_41 : Enters Tryz.prog 41 := enters_of (fn := Tryz.f41) (by kernel_rfl) (by kernel_rfl) (by kernel_rfl)
theorem en_F41 : Enters Tryz.prog 41 := en_41
theorem tl_F41 (N : Nat) : TabL Tryz.prog T (C_F41 N) := (.cons (fs_F39 N) en_F39 .nil)
theorem nl_F41 (N : Nat) : NatL (C_F41 N) := (.cons (na_F39 N) .nil)
theorem ct_F41 (N : Nat) : NatTab (E_F41 N).C := tab_nat (l := C_F41 N) (nl_F41 N)
theorem eo_F41 (N : Nat) : EnvOk (E_F41 N) := ⟨tyOk Tryz.prog, tab_sound (l := C_F41 N) (tl_F41 N), flatOk, keysOk⟩
theorem ll_F41 : loopsOf code_41 = [] := by kernel_rfl
theorem fi_F41 (N : Nat) : FineL (E_F41 N) N [] := .nil
theorem cc_F41 (N : Nat) : CutsOk (E_F41 N) N code_41 := cuts_of (fun _ => rfl) code_41 (by rw [ll_F41]; exact fi_F41 N)
theorem v_F41 (args : List (IV A)) : (∀ (N : Nat) (R : Type) (k : IV A → List (IV A) → Option R), S_F41 N args k = none) ∨ ∃ (a1 : Int) (a2 : Int) (a3 : List UInt8) (a4 : List UInt8) (a5 : Int) (a6 : Int) (a7 : List UInt8) (a8 : List UInt8) (a9 : Int) (a10 : Int) (a11 : List UInt8) (a12 : List UInt8) (a13 : Int) (a14 : Int) (a15 : List UInt8) (a16 : List UInt8), args = [.agg [.d (.int .i64 a1), .d (.int .i64 a2), .d (.str a3), .d (.str a4), .d (.int .i64 a5), .d (.int .i64 a6), .d (.str a7), .d (.str a8)], .agg [.d (.int .i64 a9), .d (.int .i64 a10), .d (.str a11), .d (.str a12), .d (.int .i64 a13), .d (.int .i64 a14), .d (.str a15), .d (.str a16)]] := by
  by_cases h : ∃ (a1 : Int) (a2 : Int) (a3 : List UInt8) (a4 : List UInt8) (a5 : Int) (a6 : Int) (a7 : List UInt8) (a8 : List UInt8) (a9 : Int) (a10 : Int) (a11 : List UInt8) (a12 : List UInt8) (a13 : Int) (a14 : Int) (a15 : List UInt8) (a16 : List UInt8), args = [.agg [.d (.int .i64 a1), .d (.int .i64 a2), .d (.str a3), .d (.str a4), .d (.int .i64 a5), .d (.int .i64 a6), .d (.str a7), .d (.str a8)], .agg [.d (.int .i64 a9), .d (.int .i64 a10), .d (.str a11), .d (.str a12), .d (.int .i64 a13), .d (.int .i64 a14), .d (.str a15), .d (.str a16)]]
  · exact .inr h
  · refine .inl (fun N R k => ?_)
    unfold S_F41 SS_F41
    split
    · exact absurd ⟨_, _, _, _, _, _, _, _, _, _, _, _, _, _, _, _, rfl⟩ h
    · rfl
theorem sm_F41 (N : Nat) : Same (S_F41 N) (abody (E_F41 N) Tryz.f41 code_41 2 [] [.asis] N) := by
  intro args
  rcases v_F41 args with h | ⟨a1, a2, a3, a4, a5, a6, a7, a8, a9, a10, a11, a12, a13, a14, a15, a16, rfl⟩
  · exact .inl (h N)
  · exact .inr (fun R k => (t_F41 N a1 a2 a3 a4 a5 a6 a7 a8 a9 a10 a11 a12 a13 a14 a15 a16 R k).symm)
theorem fu_41 : Tryz.prog.funcs[41]? = some Tryz.f41 := by kernel_rfl
theorem bo_41 : Tryz.f41.body = some code_41 := by kernel_rfl
theorem fs_F41 (N : Nat) : FnSound Tryz.prog T 41 (S_F41 N) := fs_of (E_F41 N) rfl rfl (eo_F41 N) (ct_F41 N) mixed fu_41 bo_41 2 [] [.asis] N (cc_F41 N) (sm_F41 N)
theorem na_F41 (N : Nat) : NatSpec (S_F41 N) := na_of (E_F41 N) (ct_F41 N) Tryz.f41 code_41 2 [] [.asis] N (cc_F41 N) (sm_F41 N)
def L40_9 (g41 : TF41) : Nat → Nat → Int → Int → Int → Int → List (G_Contact) → {R : Type} → (Int → List (G_Contact) → Option R) → Option R
  | _, 0, _, _, _, _, _, _, _ => none
  | N, n + 1, v27, v28, v29, v30, v31, _, e0 => (bif (decide (v30 < ((v29 - v28).toNat : Int))) then (bif (decide (0 ≤ v30) && (decide (v30 < v29 - v28) && decide (v28 + v30 < (v31.length : Int)))) then (match v31[(v28 + v30 : Int).toNat]? with | some x37 => (bif (decide (0 ≤ (IntKind.i64.wrap (v30 - 1))) && (decide ((IntKind.i64.wrap (v30 - 1)) < v29 - v28) && decide (v28 + (IntKind.i64.wrap (v30 - 1)) < (v31.length : Int)))) then (match v31[(v28 + (IntKind.i64.wrap (v30 - 1)) : Int).toNat]? with | some x38 => (g41 x37.f_At x37.f_Mode x37.f_Band x37.f_Call x37.f_Sent x37.f_Heard x37.f_Gave x37.f_Got x38.f_At x38.f_Mode x38.f_Band x38.f_Call x38.f_Sent x38.f_Heard x38.f_Gave x38.f_Got (fun r39 => (bif (!r39) then (bif (decide (0 ≤ v30) && (decide (v30 < v29 - v28) && decide (v28 + v30 < (v31.length : Int)))) then (match v31[(v28 + v30 : Int).toNat]? with | some x40 => (bif (decide (0 ≤ v27) && decide (v27 < (v31.length : Int))) then (match v31[(v27 : Int).toNat]? with | some x41 => L40_9 g41 N n ((IntKind.i64.wrap (v27 + 1))) v28 v29 ((IntKind.i64.wrap (v30 + 1))) ((v31.set (v27 : Int).toNat x40)) e0 | none => none) else none) | none => none) else none) else L40_9 g41 N n v27 v28 v29 ((IntKind.i64.wrap (v30 + 1))) v31 e0))) | none => none) else none) | none => none) else none) else e0 v27 v31)
def L40_4 (g41 : TF41) : Nat → Nat → Int → List (G_Contact) → {R : Type} → (List (G_Contact) → Option R) → (List (G_Contact) → Option R) → Option R
  | _, 0, _, _, _, _, _ => none
  | N, n + 1, v2, v3, _, e0, e1 => (bif (decide (v2 < (v3.length : Int))) then (bif (decide (0 ≤ v2) && decide (v2 < (v3.length : Int))) then (match v3[(v2 : Int).toNat]? with | some x24 => (bif (decide (0 ≤ (IntKind.i64.wrap (v2 - 1))) && decide ((IntKind.i64.wrap (v2 - 1)) < (v3.length : Int))) then (match v3[((IntKind.i64.wrap (v2 - 1)) : Int).toNat]? with | some x25 => (g41 x24.f_At x24.f_Mode x24.f_Band x24.f_Call x24.f_Sent x24.f_Heard x24.f_Gave x24.f_Got x25.f_At x25.f_Mode x25.f_Band x25.f_Call x25.f_Sent x25.f_Heard x25.f_Gave x25.f_Got (fun r26 => (bif r26 then (bif (decide (0 < v3.length) && (decide (0 ≤ v2) && decide (v2 ≤ (v3.length : Int)))) then (L40_9 g41 N N v2 v2 (v3.length : Int) 1 v3 (fun e42 e43 => (bif (decide (0 < e43.length) && (decide (0 ≤ e42) && decide (e42 ≤ (e43.length : Int)))) then (bif (decide (0 ≤ e42) && (decide (e42 ≤ (e43.length : Int)) && decide (((e43.length : Int)).toNat ≤ e43.length))) then (bif (decide (0 ≤ e42) && decide (e42 ≤ ((e43.take (e42).toNat ++ (List.replicate ((e43.length : Int) - e42).toNat (⟨0, 0, [], [], 0, 0, [], []⟩ : G_Contact) ++ e43.drop ((e43.length : Int)).toNat)).length : Int))) then e0 (((e43.take (e42).toNat ++ (List.replicate ((e43.length : Int) - e42).toNat (⟨0, 0, [], [], 0, 0, [], []⟩ : G_Contact) ++ e43.drop ((e43.length : Int)).toNat)).take (e42 : Int).toNat)) else none) else none) else none))) else none) else L40_4 g41 N n ((IntKind.i64.wrap (v2 + 1))) v3 e0 e1))) | none => none) else none) | none => none) else none) else e1 v3)
abbrev TF40 : Type 1 := List (G_Contact) → {R : Type} → (List (G_Contact) → Option R) → Option R
def F40_ (g41 : TF41) (N : Nat) (a1 : List (G_Contact)) {R : Type} (k0 : List (G_Contact) → Option R) : Option R :=
  (bif (decide ((a1.length : Int) < 2)) then k0 a1 else (L40_4 g41 N N 1 a1 (fun e44 => k0 e44) (fun e45 => k0 e45)))
def F40 (N : Nat) : TF40 := @F40_ (@F41 N) N
def p_F40 (args : List (IV A)) : Bool := match args with | [.arr 58 _, .fn 41 []] => true | _ => false
def SS_F40 (g : TF40) : Spec A := fun args _ k => match args with | [.arr 58 a1, .fn 41 []] => g a1 (fun z0 => k (.arr 58 z0) [.undef, .fn 41 []]) | _ => none
def S_F40 (N : Nat) : Spec A := SS_F40 (F40 N)
def sh_L40_9 : SSt := { fr := sparse .undef 66 [(0, .own 58 0), (1, .fn 41 []), (5, .int .i64), (6, .vw 58 0), (7, .int .i64)], st := sparse .none 6 [(0, .row 58)] }
def LP_L40_9 (g41 : TF41) (N n : Nat) (ps : List (Pv A)) {R : Type} (K : Ex → St A → Option R) : Option R := match ps with | [.d (.int .i64 p0), .z p1, .z p2, .d (.int .i64 p3), .d (.sl 58 p4)] => L40_9 g41 N n p0 p1 p2 p3 p4 (fun z0 z1 => K (.exit 2) { fr := sparse .undef 66 [(0, .own 58 0), (1, .fn 41 []), (5, .d (.int .i64 z0))], st := sparse none 6 [(0, some (.row 58 z1))] }) | _ => none
def LS_L40_9 (g41 : TF41) (N n : Nat) : Piece A := fun S _ K => match decSt sh_L40_9 S with | some ps => LP_L40_9 g41 N n ps K | none => none
def sh_L40_4 : SSt := { fr := sparse .undef 66 [(0, .own 58 0), (1, .fn 41 []), (5, .int .i64)], st := sparse .none 6 [(0, .row 58)] }
def LP_L40_4 (g41 : TF41) (N n : Nat) (ps : List (Pv A)) {R : Type} (K : Ex → St A → Option R) : Option R := match ps with | [.d (.int .i64 p0), .d (.sl 58 p1)] => L40_4 g41 N n p0 p1 (fun z0 => K .ret { fr := sparse .undef 66 [(0, .own 58 0), (1, .fn 41 []), (4, .own 58 5)], st := sparse none 6 [(5, some (.row 58 z0))] }) (fun z0 => K (.exit 0) { fr := sparse .undef 66 [(0, .own 58 0), (1, .fn 41 [])], st := sparse none 6 [(0, some (.row 58 z0))] }) | _ => none
def LS_L40_4 (g41 : TF41) (N n : Nat) : Piece A := fun S _ K => match decSt sh_L40_4 S with | some ps => LP_L40_4 g41 N n ps K | none => none
noncomputable def code_40 : Code := (Tryz.f40.body).getD .skip
def C_F40_ (g41 : TF41) : List (Nat × Spec A) := [(41, SS_F41 g41)]
def C_F40 (N : Nat) : List (Nat × Spec A) := C_F40_ (@F41 N)
noncomputable def E_F40_ (g41 : TF41) (N : Nat) : Env A := { P := Tryz.prog, T := T, C := fun f => (C_F40_ g41).lookup f, tg := fun d => ([(31, [1, 2]), (61, [3, 4]), (64, [5])].lookup d).getD [], seqH := fun _ => none, loopH := fun i => [(9, ({ keep := [0, 1, 5, 6, 7], canon := [], stay := [0] } : Hint)), (4, ({ keep := [0, 1, 5], canon := [], stay := [0] } : Hint))].lookup i, exitH := fun i => [(9, ({ keep := [0, 1, 5], canon := [], stay := [0] } : Hint)), (4, ({ keep := [0, 1, 4], canon := [], stay := [0, 5] } : Hint))].lookup i, cutL := fun i => [(9, LS_L40_9 g41 N N), (4, LS_L40_4 g41 N N)].lookup i, mode := fun f i => [].contains (f, i), keyed := keyT, flat := flatT, pin := [1] }
noncomputable def E_F40 (N : Nat) : Env A := E_F40_ (@F41 N) N
theorem tg_F40 (g41 : TF41) (N : Nat) (a1 : List (G_Contact)) (R : Type) (k : IV A → List (IV A) → Option R) : abody (E_F40_ g41 N) Tryz.f40 code_40 6 [0] [.arr 58] N [.arr 58 a1, .fn 41 []] k = SS_F40 (@F40_ g41 N) [.arr 58 a1, .fn 41 []] k := by kernel_rfl
theorem t_F40 (N : Nat) (a1 : List (G_Contact)) (R : Type) (k : IV A → List (IV A) → Option R) : abody (E_F40 N) Tryz.f40 code_40 6 [0] [.arr 58] N [.arr 58 a1, .fn 41 []] k = S_F40 N [.arr 58 a1, .fn 41 []] k := tg_F40 (@F41 N) N a1 R k
noncomputable def cb_L40_9 : Code := sub [1, 1, 0, 1, 0, 0, 1, 0, 0, 1, 0, 1, 0, 1, 0, 0] code_40
noncomputable def bd_L40_9 (g41 : TF41) (N : Nat) : Piece A := around (fun S _ K => aexec (E_F40_ g41 N) N cb_L40_9 S K) ((firstReg cb_L40_9).bind (E_F40_ g41 N).loopH) ((firstReg cb_L40_9).bind (E_F40_ g41 N).exitH)
theorem b_L40_9 (g41 : TF41) (N n : Nat) (p0 : Int) (p1 : Int) (p2 : Int) (p3 : Int) (p4 : List (G_Contact)) (R : Type) (K : Ex → St A → Option R) : bd_L40_9 g41 N { fr := sparse .undef 66 [(0, .own 58 0), (1, .fn 41 []), (5, .d (.int .i64 p0)), (6, .vw 58 0 p1 p2), (7, .d (.int .i64 p3))], st := sparse none 6 [(0, some (.row 58 p4))] } (fun e S' => match e with | .normal => LS_L40_9 g41 N n S' K | e => K e S') = LP_L40_9 g41 N (n + 1) [.d (.int .i64 p0), .z p1, .z p2, .d (.int .i64 p3), .d (.sl 58 p4)] K := by kernel_rfl
theorem m_L40_9 (g41 : TF41) (ps : List (Pv A)) : (∀ (N n : Nat) (R : Type) (K : Ex → St A → Option R), LP_L40_9 g41 N n ps K = none) ∨ ∃ (p0 : Int) (p1 : Int) (p2 : Int) (p3 : Int) (p4 : List (G_Contact)), ps = [.d (.int .i64 p0), .z p1, .z p2, .d (.int .i64 p3), .d (.sl 58 p4)] := by
  by_cases h : ∃ (p0 : Int) (p1 : Int) (p2 : Int) (p3 : Int) (p4 : List (G_Contact)), ps = [.d (.int .i64 p0), .z p1, .z p2, .d (.int .i64 p3), .d (.sl 58 p4)]
  · exact .inr h
  · refine .inl (fun N n R K => ?_)
    unfold LP_L40_9
    split
    · exact absurd ⟨_, _, _, _, _, rfl⟩ h
    · rfl
theorem s_L40_9 (g41 : TF41) (N n : Nat) (S : St A) : (∀ (R : Type) (K : Ex → St A → Option R), LS_L40_9 g41 N (n + 1) S K = none) ∨ ∀ (R : Type) (K : Ex → St A → Option R), LS_L40_9 g41 N (n + 1) S K = bd_L40_9 g41 N S (fun e S' => match e with | .normal => LS_L40_9 g41 N n S' K | e => K e S') := by
  cases hd : decSt sh_L40_9 S with
  | none => exact .inl (fun R K => by unfold LS_L40_9; rw [hd])
  | some ps =>
    have he := decSt_enc hd
    rcases m_L40_9 g41 ps with h | ⟨p0, p1, p2, p3, p4, rfl⟩
    · exact .inl (fun R K => by unfold LS_L40_9; rw [hd]; exact h N (n + 1) R K)
    · have hS : encSt (A := A) sh_L40_9 [.d (.int .i64 p0), .z p1, .z p2, .d (.int .i64 p3), .d (.sl 58 p4)] = some { fr := sparse .undef 66 [(0, .own 58 0), (1, .fn 41 []), (5, .d (.int .i64 p0)), (6, .vw 58 0 p1 p2), (7, .d (.int .i64 p3))], st := sparse none 6 [(0, some (.row 58 p4))] } := by kernel_rfl
      rw [hS] at he
      obtain rfl := Option.some.inj he
      refine .inr (fun R K => ?_)
      rw [b_L40_9]
      unfold LS_L40_9
      rw [hd]
theorem z_L40_9 (g41 : TF41) (N : Nat) (R : Type) (S : St A) (K : Ex → St A → Option R) : LS_L40_9 g41 N 0 S K = none := by
  unfold LS_L40_9
  cases decSt sh_L40_9 S with
  | none => rfl
  | some ps =>
    simp only
    unfold LP_L40_9
    split <;> (try unfold L40_9) <;> rfl
noncomputable def cb_L40_4 : Code := sub [1, 1, 0, 1, 0, 0] code_40
noncomputable def bd_L40_4 (g41 : TF41) (N : Nat) : Piece A := around (fun S _ K => aexec (E_F40_ g41 N) N cb_L40_4 S K) ((firstReg cb_L40_4).bind (E_F40_ g41 N).loopH) ((firstReg cb_L40_4).bind (E_F40_ g41 N).exitH)
theorem b_L40_4 (g41 : TF41) (N n : Nat) (p0 : Int) (p1 : List (G_Contact)) (R : Type) (K : Ex → St A → Option R) : bd_L40_4 g41 N { fr := sparse .undef 66 [(0, .own 58 0), (1, .fn 41 []), (5, .d (.int .i64 p0))], st := sparse none 6 [(0, some (.row 58 p1))] } (fun e S' => match e with | .normal => LS_L40_4 g41 N n S' K | e => K e S') = LP_L40_4 g41 N (n + 1) [.d (.int .i64 p0), .d (.sl 58 p1)] K := by kernel_rfl
theorem m_L40_4 (g41 : TF41) (ps : List (Pv A)) : (∀ (N n : Nat) (R : Type) (K : Ex → St A → Option R), LP_L40_4 g41 N n ps K = none) ∨ ∃ (p0 : Int) (p1 : List (G_Contact)), ps = [.d (.int .i64 p0), .d (.sl 58 p1)] := by
  by_cases h : ∃ (p0 : Int) (p1 : List (G_Contact)), ps = [.d (.int .i64 p0), .d (.sl 58 p1)]
  · exact .inr h
  · refine .inl (fun N n R K => ?_)
    unfold LP_L40_4
    split
    · exact absurd ⟨_, _, rfl⟩ h
    · rfl
theorem s_L40_4 (g41 : TF41) (N n : Nat) (S : St A) : (∀ (R : Type) (K : Ex → St A → Option R), LS_L40_4 g41 N (n + 1) S K = none) ∨ ∀ (R : Type) (K : Ex → St A → Option R), LS_L40_4 g41 N (n + 1) S K = bd_L40_4 g41 N S (fun e S' => match e with | .normal => LS_L40_4 g41 N n S' K | e => K e S') := by
  cases hd : decSt sh_L40_4 S with
  | none => exact .inl (fun R K => by unfold LS_L40_4; rw [hd])
  | some ps =>
    have he := decSt_enc hd
    rcases m_L40_4 g41 ps with h | ⟨p0, p1, rfl⟩
    · exact .inl (fun R K => by unfold LS_L40_4; rw [hd]; exact h N (n + 1) R K)
    · have hS : encSt (A := A) sh_L40_4 [.d (.int .i64 p0), .d (.sl 58 p1)] = some { fr := sparse .undef 66 [(0, .own 58 0), (1, .fn 41 []), (5, .d (.int .i64 p0))], st := sparse none 6 [(0, some (.row 58 p1))] } := by kernel_rfl
      rw [hS] at he
      obtain rfl := Option.some.inj he
      refine .inr (fun R K => ?_)
      rw [b_L40_4]
      unfold LS_L40_4
      rw [hd]
theorem z_L40_4 (g41 : TF41) (N : Nat) (R : Type) (S : St A) (K : Ex → St A → Option R) : LS_L40_4 g41 N 0 S K = none := by
  unfold LS_L40_4
  cases decSt sh_L40_4 S with
  | none => rfl
  | some ps =>
    simp only
    unfold LP_L40_4
    split <;> (try unfold L40_4) <;> rfl
theorem en_40 : Enters Tryz.prog 40 := enters_of (fn := Tryz.f40) (by kernel_rfl) (by kernel_rfl) (by kernel_rfl)
theorem en_F40 : Enters Tryz.prog 40 := en_40
theorem tl_F40 (N : Nat) : TabL Tryz.prog T (C_F40 N) := (.cons (fs_F41 N) en_F41 .nil)
theorem nl_F40 (N : Nat) : NatL (C_F40 N) := (.cons (na_F41 N) .nil)
theorem ct_F40 (N : Nat) : NatTab (E_F40 N).C := tab_nat (l := C_F40 N) (nl_F40 N)
theorem eo_F40 (N : Nat) : EnvOk (E_F40 N) := ⟨tyOk Tryz.prog, tab_sound (l := C_F40 N) (tl_F40 N), flatOk, keysOk⟩
theorem ll_L40_9 : loopsOf cb_L40_9 = [] := by kernel_rfl
theorem fi_L40_9 (N : Nat) : FineL (E_F40 N) N [] := .nil
theorem cc_L40_9 (N : Nat) : CutsOk (E_F40 N) N cb_L40_9 := cuts_of (fun _ => rfl) cb_L40_9 (by rw [ll_L40_9]; exact fi_L40_9 N)
theorem cg_L40_9 (g41 : TF41) (N : Nat) : (firstReg cb_L40_9).bind (E_F40_ g41 N).cutL = some (LS_L40_9 g41 N N) := by kernel_rfl
theorem ce_L40_9 (N : Nat) : (firstReg cb_L40_9).bind (E_F40 N).cutL = some (LS_L40_9 (@F41 N) N N) := cg_L40_9 (@F41 N) N
theorem lf_L40_9 (N : Nat) : LoopFine (E_F40 N) N cb_L40_9 := fine_of (LS_L40_9 (@F41 N) N) (ce_L40_9 N) (ct_F40 N) (cc_L40_9 N) (z_L40_9 (@F41 N) N) (s_L40_9 (@F41 N) N)
theorem ll_L40_4 : loopsOf cb_L40_4 = [cb_L40_9] := by kernel_rfl
theorem fi_L40_4 (N : Nat) : FineL (E_F40 N) N [cb_L40_9] := (.cons (lf_L40_9 N) .nil)
theorem cc_L40_4 (N : Nat) : CutsOk (E_F40 N) N cb_L40_4 := cuts_of (fun _ => rfl) cb_L40_4 (by rw [ll_L40_4]; exact fi_L40_4 N)
theorem cg_L40_4 (g41 : TF41) (N : Nat) : (firstReg cb_L40_4).bind (E_F40_ g41 N).cutL = some (LS_L40_4 g41 N N) := by kernel_rfl
theorem ce_L40_4 (N : Nat) : (firstReg cb_L40_4).bind (E_F40 N).cutL = some (LS_L40_4 (@F41 N) N N) := cg_L40_4 (@F41 N) N
theorem lf_L40_4 (N : Nat) : LoopFine (E_F40 N) N cb_L40_4 := fine_of (LS_L40_4 (@F41 N) N) (ce_L40_4 N) (ct_F40 N) (cc_L40_4 N) (z_L40_4 (@F41 N) N) (s_L40_4 (@F41 N) N)
theorem ll_F40 : loopsOf code_40 = [cb_L40_9, cb_L40_4] := by kernel_rfl
theorem fi_F40 (N : Nat) : FineL (E_F40 N) N [cb_L40_9, cb_L40_4] := (.cons (lf_L40_9 N) (.cons (lf_L40_4 N) .nil))
theorem cc_F40 (N : Nat) : CutsOk (E_F40 N) N code_40 := cuts_of (fun _ => rfl) code_40 (by rw [ll_F40]; exact fi_F40 N)
theorem v_F40 (args : List (IV A)) : (∀ (N : Nat) (R : Type) (k : IV A → List (IV A) → Option R), S_F40 N args k = none) ∨ ∃ (a1 : List (G_Contact)), args = [.arr 58 a1, .fn 41 []] := by
  by_cases h : ∃ (a1 : List (G_Contact)), args = [.arr 58 a1, .fn 41 []]
  · exact .inr h
  · refine .inl (fun N R k => ?_)
    unfold S_F40 SS_F40
    split
    · exact absurd ⟨_, rfl⟩ h
    · rfl
theorem sm_F40 (N : Nat) : Same (S_F40 N) (abody (E_F40 N) Tryz.f40 code_40 6 [0] [.arr 58] N) := by
  intro args
  rcases v_F40 args with h | ⟨a1, rfl⟩
  · exact .inl (h N)
  · exact .inr (fun R k => (t_F40 N a1 R k).symm)
theorem fu_40 : Tryz.prog.funcs[40]? = some Tryz.f40 := by kernel_rfl
theorem bo_40 : Tryz.f40.body = some code_40 := by kernel_rfl
theorem fs_F40 (N : Nat) : FnSound Tryz.prog T 40 (S_F40 N) := fs_of (E_F40 N) rfl rfl (eo_F40 N) (ct_F40 N) mixed fu_40 bo_40 6 [0] [.arr 58] N (cc_F40 N) (sm_F40 N)
theorem na_F40 (N : Nat) : NatSpec (S_F40 N) := na_of (E_F40 N) (ct_F40 N) Tryz.f40 code_40 6 [0] [.arr 58] N (cc_F40 N) (sm_F40 N)
def L5_4 (g7 : TF7) (g28 : TF28) (g38 : TF38) (g40 : TF40) : Nat → Nat → Int → Int → Int → List (Int) → Int → List (G_Contact) → {R : Type} → (List (Int) → Int → List (G_Contact) → Option R) → Option R
  | _, 0, _, _, _, _, _, _, _, _ => none
  | N, n + 1, v4, v5, v6, v7, v8, v9, _, e0 => (bif (decide (v6 < v5)) then (g7 v7 v8 [0, 1, 10, 50, 1000, 40000, 1500000] (fun r23 r24 r25 => (g28 r24 r25 ((IntKind.i64.wrap (v4 + r23))) (fun r26 r27 r28 r29 r30 r31 r32 r33 r34 r35 => (bif (decide ((v9.length + [(⟨r26, r27, r28, r29, r30, r31, r32, r33⟩ : G_Contact)].length) * 96 ≤ roomBytes')) then L5_4 g7 g28 g38 g40 N n ((IntKind.i64.wrap (v4 + r23))) v5 ((IntKind.i64.wrap (v6 + 1))) r34 r35 ((v9 ++ [(⟨r26, r27, r28, r29, r30, r31, r32, r33⟩ : G_Contact)])) e0 else none))))) else e0 v7 v8 v9)
abbrev TF5 : Type 1 := List (Int) → Int → Int → {R : Type} → (List (G_Contact) → List (Int) → Int → Option R) → Option R
def F5_ (g7 : TF7) (g28 : TF28) (g38 : TF38) (g40 : TF40) (N : Nat) (a1 : List (Int)) (a2 : Int) (a3 : Int) {R : Type} (k0 : List (G_Contact) → List (Int) → Int → Option R) : Option R :=
  (L5_4 g7 g28 g38 g40 N N 0 a3 0 a1 a2 [] (fun e36 e37 e38 => (g38 e38 (fun r39 => (g40 r39 (fun r40 => k0 r40 e36 e37))))))
def F5 (N : Nat) : TF5 := @F5_ (@F7 N) (@F28 N) (@F38 N) (@F40 N) N
def p_F5 (args : List (IV A)) : Bool := match args with | [.box [.d (.sl 3 _), .d (.int .i64 _)], .d (.int .i64 _)] => true | _ => false
def SS_F5 (g : TF5) : Spec A := fun args _ k => match args with | [.box [.d (.sl 3 a1), .d (.int .i64 a2)], .d (.int .i64 a3)] => g a1 a2 a3 (fun z0 z1 z2 => k (.arr 58 z0) [.box [.d (.sl 3 z1), .d (.int .i64 z2)], .undef]) | _ => none
def S_F5 (N : Nat) : Spec A := SS_F5 (F5 N)
def sh_L5_4 : SSt := { fr := sparse .undef 26 [(0, .ptr 0 0), (5, .own 58 1), (6, .int .i64), (7, .int .i64), (8, .int .i64)], st := sparse .none 6 [(0, .box [.sl 3, .int .i64]), (1, .row 58)] }
def LP_L5_4 (g7 : TF7) (g28 : TF28) (g38 : TF38) (g40 : TF40) (N n : Nat) (ps : List (Pv A)) {R : Type} (K : Ex → St A → Option R) : Option R := match ps with | [.d (.int .i64 p0), .d (.int .i64 p1), .d (.int .i64 p2), .d (.sl 3 p3), .d (.int .i64 p4), .d (.sl 58 p5)] => L5_4 g7 g28 g38 g40 N n p0 p1 p2 p3 p4 p5 (fun z0 z1 z2 => K (.exit 0) { fr := sparse .undef 26 [(0, .ptr 0 0), (5, .own 58 1)], st := sparse none 6 [(0, some (.box [.d (.sl 3 z0), .d (.int .i64 z1)])), (1, some (.row 58 z2))] }) | _ => none
def LS_L5_4 (g7 : TF7) (g28 : TF28) (g38 : TF38) (g40 : TF40) (N n : Nat) : Piece A := fun S _ K => match decSt sh_L5_4 S with | some ps => LP_L5_4 g7 g28 g38 g40 N n ps K | none => none
noncomputable def code_5 : Code := (Tryz.f5.body).getD .skip
def C_F5_ (g7 : TF7) (g28 : TF28) (g38 : TF38) (g40 : TF40) : List (Nat × Spec A) := [(7, SS_F7 g7), (28, SS_F28 g28), (38, SS_F38 g38), (40, SS_F40 g40)]
def C_F5 (N : Nat) : List (Nat × Spec A) := C_F5_ (@F7 N) (@F28 N) (@F38 N) (@F40 N)
noncomputable def E_F5_ (g7 : TF7) (g28 : TF28) (g38 : TF38) (g40 : TF40) (N : Nat) : Env A := { P := Tryz.prog, T := T, C := fun f => (C_F5_ g7 g28 g38 g40).lookup f, tg := fun d => ([(12, [2]), (19, [3]), (20, [4]), (25, [5])].lookup d).getD [], seqH := fun _ => none, loopH := fun i => [(4, ({ keep := [0, 5, 6, 7, 8], canon := [(5, 58, 1)], stay := [0] } : Hint))].lookup i, exitH := fun i => [(4, ({ keep := [0, 5], canon := [], stay := [0, 1] } : Hint))].lookup i, cutL := fun i => [(4, LS_L5_4 g7 g28 g38 g40 N N)].lookup i, mode := fun f i => [(38, 0), (40, 0)].contains (f, i), keyed := keyT, flat := flatT, pin := [0] }
noncomputable def E_F5 (N : Nat) : Env A := E_F5_ (@F7 N) (@F28 N) (@F38 N) (@F40 N) N
theorem tg_F5 (g7 : TF7) (g28 : TF28) (g38 : TF38) (g40 : TF40) (N : Nat) (a1 : List (Int)) (a2 : Int) (a3 : Int) (R : Type) (k : IV A → List (IV A) → Option R) : abody (E_F5_ g7 g28 g38 g40 N) Tryz.f5 code_5 6 [0] [.arr 58] N [.box [.d (.sl 3 a1), .d (.int .i64 a2)], .d (.int .i64 a3)] k = SS_F5 (@F5_ g7 g28 g38 g40 N) [.box [.d (.sl 3 a1), .d (.int .i64 a2)], .d (.int .i64 a3)] k := by kernel_rfl
theorem t_F5 (N : Nat) (a1 : List (Int)) (a2 : Int) (a3 : Int) (R : Type) (k : IV A → List (IV A) → Option R) : abody (E_F5 N) Tryz.f5 code_5 6 [0] [.arr 58] N [.box [.d (.sl 3 a1), .d (.int .i64 a2)], .d (.int .i64 a3)] k = S_F5 N [.box [.d (.sl 3 a1), .d (.int .i64 a2)], .d (.int .i64 a3)] k := tg_F5 (@F7 N) (@F28 N) (@F38 N) (@F40 N) N a1 a2 a3 R k
noncomputable def cb_L5_4 : Code := sub [1, 1, 1, 0, 1, 0, 0] code_5
noncomputable def bd_L5_4 (g7 : TF7) (g28 : TF28) (g38 : TF38) (g40 : TF40) (N : Nat) : Piece A := around (fun S _ K => aexec (E_F5_ g7 g28 g38 g40 N) N cb_L5_4 S K) ((firstReg cb_L5_4).bind (E_F5_ g7 g28 g38 g40 N).loopH) ((firstReg cb_L5_4).bind (E_F5_ g7 g28 g38 g40 N).exitH)
theorem b_L5_4 (g7 : TF7) (g28 : TF28) (g38 : TF38) (g40 : TF40) (N n : Nat) (p0 : Int) (p1 : Int) (p2 : Int) (p3 : List (Int)) (p4 : Int) (p5 : List (G_Contact)) (R : Type) (K : Ex → St A → Option R) : bd_L5_4 g7 g28 g38 g40 N { fr := sparse .undef 26 [(0, .ptr 0 0), (5, .own 58 1), (6, .d (.int .i64 p0)), (7, .d (.int .i64 p1)), (8, .d (.int .i64 p2))], st := sparse none 6 [(0, some (.box [.d (.sl 3 p3), .d (.int .i64 p4)])), (1, some (.row 58 p5))] } (fun e S' => match e with | .normal => LS_L5_4 g7 g28 g38 g40 N n S' K | e => K e S') = LP_L5_4 g7 g28 g38 g40 N (n + 1) [.d (.int .i64 p0), .d (.int .i64 p1), .d (.int .i64 p2), .d (.sl 3 p3), .d (.int .i64 p4), .d (.sl 58 p5)] K := by kernel_rfl
theorem m_L5_4 (g7 : TF7) (g28 : TF28) (g38 : TF38) (g40 : TF40) (ps : List (Pv A)) : (∀ (N n : Nat) (R : Type) (K : Ex → St A → Option R), LP_L5_4 g7 g28 g38 g40 N n ps K = none) ∨ ∃ (p0 : Int) (p1 : Int) (p2 : Int) (p3 : List (Int)) (p4 : Int) (p5 : List (G_Contact)), ps = [.d (.int .i64 p0), .d (.int .i64 p1), .d (.int .i64 p2), .d (.sl 3 p3), .d (.int .i64 p4), .d (.sl 58 p5)] := by
  by_cases h : ∃ (p0 : Int) (p1 : Int) (p2 : Int) (p3 : List (Int)) (p4 : Int) (p5 : List (G_Contact)), ps = [.d (.int .i64 p0), .d (.int .i64 p1), .d (.int .i64 p2), .d (.sl 3 p3), .d (.int .i64 p4), .d (.sl 58 p5)]
  · exact .inr h
  · refine .inl (fun N n R K => ?_)
    unfold LP_L5_4
    split
    · exact absurd ⟨_, _, _, _, _, _, rfl⟩ h
    · rfl
theorem s_L5_4 (g7 : TF7) (g28 : TF28) (g38 : TF38) (g40 : TF40) (N n : Nat) (S : St A) : (∀ (R : Type) (K : Ex → St A → Option R), LS_L5_4 g7 g28 g38 g40 N (n + 1) S K = none) ∨ ∀ (R : Type) (K : Ex → St A → Option R), LS_L5_4 g7 g28 g38 g40 N (n + 1) S K = bd_L5_4 g7 g28 g38 g40 N S (fun e S' => match e with | .normal => LS_L5_4 g7 g28 g38 g40 N n S' K | e => K e S') := by
  cases hd : decSt sh_L5_4 S with
  | none => exact .inl (fun R K => by unfold LS_L5_4; rw [hd])
  | some ps =>
    have he := decSt_enc hd
    rcases m_L5_4 g7 g28 g38 g40 ps with h | ⟨p0, p1, p2, p3, p4, p5, rfl⟩
    · exact .inl (fun R K => by unfold LS_L5_4; rw [hd]; exact h N (n + 1) R K)
    · have hS : encSt (A := A) sh_L5_4 [.d (.int .i64 p0), .d (.int .i64 p1), .d (.int .i64 p2), .d (.sl 3 p3), .d (.int .i64 p4), .d (.sl 58 p5)] = some { fr := sparse .undef 26 [(0, .ptr 0 0), (5, .own 58 1), (6, .d (.int .i64 p0)), (7, .d (.int .i64 p1)), (8, .d (.int .i64 p2))], st := sparse none 6 [(0, some (.box [.d (.sl 3 p3), .d (.int .i64 p4)])), (1, some (.row 58 p5))] } := by kernel_rfl
      rw [hS] at he
      obtain rfl := Option.some.inj he
      refine .inr (fun R K => ?_)
      rw [b_L5_4]
      unfold LS_L5_4
      rw [hd]
theorem z_L5_4 (g7 : TF7) (g28 : TF28) (g38 : TF38) (g40 : TF40) (N : Nat) (R : Type) (S : St A) (K : Ex → St A → Option R) : LS_L5_4 g7 g28 g38 g40 N 0 S K = none := by
  unfold LS_L5_4
  cases decSt sh_L5_4 S with
  | none => rfl
  | some ps =>
    simp only
    unfold LP_L5_4
    split <;> (try unfold L5_4) <;> rfl
theorem en_5 : Enters Tryz.prog 5 := enters_of (fn := Tryz.f5) (by kernel_rfl) (by kernel_rfl) (by kernel_rfl)
theorem en_F5 : Enters Tryz.prog 5 := en_5
theorem tl_F5 (N : Nat) : TabL Tryz.prog T (C_F5 N) := (.cons (fs_F7 N) en_F7 (.cons (fs_F28 N) en_F28 (.cons (fs_F38 N) en_F38 (.cons (fs_F40 N) en_F40 .nil))))
theorem nl_F5 (N : Nat) : NatL (C_F5 N) := (.cons (na_F7 N) (.cons (na_F28 N) (.cons (na_F38 N) (.cons (na_F40 N) .nil))))
theorem ct_F5 (N : Nat) : NatTab (E_F5 N).C := tab_nat (l := C_F5 N) (nl_F5 N)
theorem eo_F5 (N : Nat) : EnvOk (E_F5 N) := ⟨tyOk Tryz.prog, tab_sound (l := C_F5 N) (tl_F5 N), flatOk, keysOk⟩
theorem ll_L5_4 : loopsOf cb_L5_4 = [] := by kernel_rfl
theorem fi_L5_4 (N : Nat) : FineL (E_F5 N) N [] := .nil
theorem cc_L5_4 (N : Nat) : CutsOk (E_F5 N) N cb_L5_4 := cuts_of (fun _ => rfl) cb_L5_4 (by rw [ll_L5_4]; exact fi_L5_4 N)
theorem cg_L5_4 (g7 : TF7) (g28 : TF28) (g38 : TF38) (g40 : TF40) (N : Nat) : (firstReg cb_L5_4).bind (E_F5_ g7 g28 g38 g40 N).cutL = some (LS_L5_4 g7 g28 g38 g40 N N) := by kernel_rfl
theorem ce_L5_4 (N : Nat) : (firstReg cb_L5_4).bind (E_F5 N).cutL = some (LS_L5_4 (@F7 N) (@F28 N) (@F38 N) (@F40 N) N N) := cg_L5_4 (@F7 N) (@F28 N) (@F38 N) (@F40 N) N
theorem lf_L5_4 (N : Nat) : LoopFine (E_F5 N) N cb_L5_4 := fine_of (LS_L5_4 (@F7 N) (@F28 N) (@F38 N) (@F40 N) N) (ce_L5_4 N) (ct_F5 N) (cc_L5_4 N) (z_L5_4 (@F7 N) (@F28 N) (@F38 N) (@F40 N) N) (s_L5_4 (@F7 N) (@F28 N) (@F38 N) (@F40 N) N)
theorem ll_F5 : loopsOf code_5 = [cb_L5_4] := by kernel_rfl
theorem fi_F5 (N : Nat) : FineL (E_F5 N) N [cb_L5_4] := (.cons (lf_L5_4 N) .nil)
theorem cc_F5 (N : Nat) : CutsOk (E_F5 N) N code_5 := cuts_of (fun _ => rfl) code_5 (by rw [ll_F5]; exact fi_F5 N)
theorem v_F5 (args : List (IV A)) : (∀ (N : Nat) (R : Type) (k : IV A → List (IV A) → Option R), S_F5 N args k = none) ∨ ∃ (a1 : List (Int)) (a2 : Int) (a3 : Int), args = [.box [.d (.sl 3 a1), .d (.int .i64 a2)], .d (.int .i64 a3)] := by
  by_cases h : ∃ (a1 : List (Int)) (a2 : Int) (a3 : Int), args = [.box [.d (.sl 3 a1), .d (.int .i64 a2)], .d (.int .i64 a3)]
  · exact .inr h
  · refine .inl (fun N R k => ?_)
    unfold S_F5 SS_F5
    split
    · exact absurd ⟨_, _, _, rfl⟩ h
    · rfl
theorem sm_F5 (N : Nat) : Same (S_F5 N) (abody (E_F5 N) Tryz.f5 code_5 6 [0] [.arr 58] N) := by
  intro args
  rcases v_F5 args with h | ⟨a1, a2, a3, rfl⟩
  · exact .inl (h N)
  · exact .inr (fun R k => (t_F5 N a1 a2 a3 R k).symm)
theorem fu_5 : Tryz.prog.funcs[5]? = some Tryz.f5 := by kernel_rfl
theorem bo_5 : Tryz.f5.body = some code_5 := by kernel_rfl
theorem fs_F5 (N : Nat) : FnSound Tryz.prog T 5 (S_F5 N) := fs_of (E_F5 N) rfl rfl (eo_F5 N) (ct_F5 N) mixed fu_5 bo_5 6 [0] [.arr 58] N (cc_F5 N) (sm_F5 N)
theorem na_F5 (N : Nat) : NatSpec (S_F5 N) := na_of (E_F5 N) (ct_F5 N) Tryz.f5 code_5 6 [0] [.arr 58] N (cc_F5 N) (sm_F5 N)
abbrev TF42 : Type 1 := Int → Int → Int → {R : Type} → (Bool → Option R) → Option R
def F42_ (N : Nat) (a1 : Int) (a2 : Int) (a3 : Int) {R : Type} (k0 : Bool → Option R) : Option R :=
  (bif (decide (a1 < a2)) then k0 true else k0 ((decide (a1 > a3))))
def F42 (N : Nat) : TF42 := @F42_ N
def p_F42 (args : List (IV A)) : Bool := match args with | [.d (.int .i64 _), .d (.int .i64 _), .d (.int .i64 _)] => true | _ => false
def SS_F42 (g : TF42) : Spec A := fun args _ k => match args with | [.d (.int .i64 a1), .d (.int .i64 a2), .d (.int .i64 a3)] => g a1 a2 a3 (fun z0 => k (.d (.bool z0)) [.undef, .undef, .undef]) | _ => none
def S_F42 (N : Nat) : Spec A := SS_F42 (F42 N)
noncomputable def code_42 : Code := (Tryz.f42.body).getD .skip
def C_F42_ : List (Nat × Spec A) := []
def C_F42 (N : Nat) : List (Nat × Spec A) := C_F42_
noncomputable def E_F42_ (N : Nat) : Env A := { P := Tryz.prog, T := T, C := fun f => (C_F42_).lookup f, tg := fun d => ([].lookup d).getD [], seqH := fun _ => none, loopH := fun i => [].lookup i, exitH := fun i => [].lookup i, cutL := fun _ => none, mode := fun f i => [].contains (f, i), keyed := keyT, flat := flatT, pin := [] }
noncomputable def E_F42 (N : Nat) : Env A := E_F42_ N
theorem tg_F42 (N : Nat) (a1 : Int) (a2 : Int) (a3 : Int) (R : Type) (k : IV A → List (IV A) → Option R) : abody (E_F42_ N) Tryz.f42 code_42 0 [] [.asis] N [.d (.int .i64 a1), .d (.int .i64 a2), .d (.int .i64 a3)] k = SS_F42 (@F42_ N) [.d (.int .i64 a1), .d (.int .i64 a2), .d (.int .i64 a3)] k := by kernel_rfl
theorem t_F42 (N : Nat) (a1 : Int) (a2 : Int) (a3 : Int) (R : Type) (k : IV A → List (IV A) → Option R) : abody (E_F42 N) Tryz.f42 code_42 0 [] [.asis] N [.d (.int .i64 a1), .d (.int .i64 a2), .d (.int .i64 a3)] k = S_F42 N [.d (.int .i64 a1), .d (.int .i64 a2), .d (.int .i64 a3)] k := tg_F42 N a1 a2 a3 R k
theorem en_42 : Enters Tryz.prog 42 := enters_of (fn := Tryz.f42) (by kernel_rfl) (by kernel_rfl) (by kernel_rfl)
theorem en_F42 : Enters Tryz.prog 42 := en_42
theorem tl_F42 (N : Nat) : TabL Tryz.prog T (C_F42 N) := .nil
theorem nl_F42 (N : Nat) : NatL (C_F42 N) := .nil
theorem ct_F42 (N : Nat) : NatTab (E_F42 N).C := tab_nat (l := C_F42 N) (nl_F42 N)
theorem eo_F42 (N : Nat) : EnvOk (E_F42 N) := ⟨tyOk Tryz.prog, tab_sound (l := C_F42 N) (tl_F42 N), flatOk, keysOk⟩
theorem ll_F42 : loopsOf code_42 = [] := by kernel_rfl
theorem fi_F42 (N : Nat) : FineL (E_F42 N) N [] := .nil
theorem cc_F42 (N : Nat) : CutsOk (E_F42 N) N code_42 := cuts_of (fun _ => rfl) code_42 (by rw [ll_F42]; exact fi_F42 N)
theorem v_F42 (args : List (IV A)) : (∀ (N : Nat) (R : Type) (k : IV A → List (IV A) → Option R), S_F42 N args k = none) ∨ ∃ (a1 : Int) (a2 : Int) (a3 : Int), args = [.d (.int .i64 a1), .d (.int .i64 a2), .d (.int .i64 a3)] := by
  by_cases h : ∃ (a1 : Int) (a2 : Int) (a3 : Int), args = [.d (.int .i64 a1), .d (.int .i64 a2), .d (.int .i64 a3)]
  · exact .inr h
  · refine .inl (fun N R k => ?_)
    unfold S_F42 SS_F42
    split
    · exact absurd ⟨_, _, _, rfl⟩ h
    · rfl
theorem sm_F42 (N : Nat) : Same (S_F42 N) (abody (E_F42 N) Tryz.f42 code_42 0 [] [.asis] N) := by
  intro args
  rcases v_F42 args with h | ⟨a1, a2, a3, rfl⟩
  · exact .inl (h N)
  · exact .inr (fun R k => (t_F42 N a1 a2 a3 R k).symm)
theorem fu_42 : Tryz.prog.funcs[42]? = some Tryz.f42 := by kernel_rfl
theorem bo_42 : Tryz.f42.body = some code_42 := by kernel_rfl
theorem fs_F42 (N : Nat) : FnSound Tryz.prog T 42 (S_F42 N) := fs_of (E_F42 N) rfl rfl (eo_F42 N) (ct_F42 N) mixed fu_42 bo_42 0 [] [.asis] N (cc_F42 N) (sm_F42 N)
theorem na_F42 (N : Nat) : NatSpec (S_F42 N) := na_of (E_F42 N) (ct_F42 N) Tryz.f42 code_42 0 [] [.asis] N (cc_F42 N) (sm_F42 N)
abbrev TF64 : Type 1 := Int → {R : Type} → (Bool → Option R) → Option R
def F64_ (g42 : TF42) (N : Nat) (a1 : Int) {R : Type} (k0 : Bool → Option R) : Option R :=
  (g42 a1 0 345686399999 (fun r2 => k0 (!r2)))
def F64 (N : Nat) : TF64 := @F64_ (@F42 N) N
def p_F64 (args : List (IV A)) : Bool := match args with | [.d (.int .i64 _)] => true | _ => false
def SS_F64 (g : TF64) : Spec A := fun args _ k => match args with | [.d (.int .i64 a1)] => g a1 (fun z0 => k (.d (.bool z0)) [.undef]) | _ => none
def S_F64 (N : Nat) : Spec A := SS_F64 (F64 N)
noncomputable def code_64 : Code := (Tryz.f64.body).getD .skip
def C_F64_ (g42 : TF42) : List (Nat × Spec A) := [(42, SS_F42 g42)]
def C_F64 (N : Nat) : List (Nat × Spec A) := C_F64_ (@F42 N)
noncomputable def E_F64_ (g42 : TF42) (N : Nat) : Env A := { P := Tryz.prog, T := T, C := fun f => (C_F64_ g42).lookup f, tg := fun d => ([].lookup d).getD [], seqH := fun _ => none, loopH := fun i => [].lookup i, exitH := fun i => [].lookup i, cutL := fun _ => none, mode := fun f i => [].contains (f, i), keyed := keyT, flat := flatT, pin := [] }
noncomputable def E_F64 (N : Nat) : Env A := E_F64_ (@F42 N) N
theorem tg_F64 (g42 : TF42) (N : Nat) (a1 : Int) (R : Type) (k : IV A → List (IV A) → Option R) : abody (E_F64_ g42 N) Tryz.f64 code_64 0 [] [.asis] N [.d (.int .i64 a1)] k = SS_F64 (@F64_ g42 N) [.d (.int .i64 a1)] k := by kernel_rfl
theorem t_F64 (N : Nat) (a1 : Int) (R : Type) (k : IV A → List (IV A) → Option R) : abody (E_F64 N) Tryz.f64 code_64 0 [] [.asis] N [.d (.int .i64 a1)] k = S_F64 N [.d (.int .i64 a1)] k := tg_F64 (@F42 N) N a1 R k
theorem en_64 : Enters Tryz.prog 64 := enters_of (fn := Tryz.f64) (by kernel_rfl) (by kernel_rfl) (by kernel_rfl)
theorem en_F64 : Enters Tryz.prog 64 := en_64
theorem tl_F64 (N : Nat) : TabL Tryz.prog T (C_F64 N) := (.cons (fs_F42 N) en_F42 .nil)
theorem nl_F64 (N : Nat) : NatL (C_F64 N) := (.cons (na_F42 N) .nil)
theorem ct_F64 (N : Nat) : NatTab (E_F64 N).C := tab_nat (l := C_F64 N) (nl_F64 N)
theorem eo_F64 (N : Nat) : EnvOk (E_F64 N) := ⟨tyOk Tryz.prog, tab_sound (l := C_F64 N) (tl_F64 N), flatOk, keysOk⟩
theorem ll_F64 : loopsOf code_64 = [] := by kernel_rfl
theorem fi_F64 (N : Nat) : FineL (E_F64 N) N [] := .nil
theorem cc_F64 (N : Nat) : CutsOk (E_F64 N) N code_64 := cuts_of (fun _ => rfl) code_64 (by rw [ll_F64]; exact fi_F64 N)
theorem v_F64 (args : List (IV A)) : (∀ (N : Nat) (R : Type) (k : IV A → List (IV A) → Option R), S_F64 N args k = none) ∨ ∃ (a1 : Int), args = [.d (.int .i64 a1)] := by
  by_cases h : ∃ (a1 : Int), args = [.d (.int .i64 a1)]
  · exact .inr h
  · refine .inl (fun N R k => ?_)
    unfold S_F64 SS_F64
    split
    · exact absurd ⟨_, rfl⟩ h
    · rfl
theorem sm_F64 (N : Nat) : Same (S_F64 N) (abody (E_F64 N) Tryz.f64 code_64 0 [] [.asis] N) := by
  intro args
  rcases v_F64 args with h | ⟨a1, rfl⟩
  · exact .inl (h N)
  · exact .inr (fun R k => (t_F64 N a1 R k).symm)
theorem fu_64 : Tryz.prog.funcs[64]? = some Tryz.f64 := by kernel_rfl
theorem bo_64 : Tryz.f64.body = some code_64 := by kernel_rfl
theorem fs_F64 (N : Nat) : FnSound Tryz.prog T 64 (S_F64 N) := fs_of (E_F64 N) rfl rfl (eo_F64 N) (ct_F64 N) mixed fu_64 bo_64 0 [] [.asis] N (cc_F64 N) (sm_F64 N)
theorem na_F64 (N : Nat) : NatSpec (S_F64 N) := na_of (E_F64 N) (ct_F64 N) Tryz.f64 code_64 0 [] [.asis] N (cc_F64 N) (sm_F64 N)
abbrev TF65 : Type 1 := Int → {R : Type} → (Bool → Option R) → Option R
def F65_ (g42 : TF42) (N : Nat) (a1 : Int) {R : Type} (k0 : Bool → Option R) : Option R :=
  (g42 a1 1 3 (fun r2 => k0 (!r2)))
def F65 (N : Nat) : TF65 := @F65_ (@F42 N) N
def p_F65 (args : List (IV A)) : Bool := match args with | [.d (.int .i64 _)] => true | _ => false
def SS_F65 (g : TF65) : Spec A := fun args _ k => match args with | [.d (.int .i64 a1)] => g a1 (fun z0 => k (.d (.bool z0)) [.undef]) | _ => none
def S_F65 (N : Nat) : Spec A := SS_F65 (F65 N)
noncomputable def code_65 : Code := (Tryz.f65.body).getD .skip
def C_F65_ (g42 : TF42) : List (Nat × Spec A) := [(42, SS_F42 g42)]
def C_F65 (N : Nat) : List (Nat × Spec A) := C_F65_ (@F42 N)
noncomputable def E_F65_ (g42 : TF42) (N : Nat) : Env A := { P := Tryz.prog, T := T, C := fun f => (C_F65_ g42).lookup f, tg := fun d => ([].lookup d).getD [], seqH := fun _ => none, loopH := fun i => [].lookup i, exitH := fun i => [].lookup i, cutL := fun _ => none, mode := fun f i => [].contains (f, i), keyed := keyT, flat := flatT, pin := [] }
noncomputable def E_F65 (N : Nat) : Env A := E_F65_ (@F42 N) N
theorem tg_F65 (g42 : TF42) (N : Nat) (a1 : Int) (R : Type) (k : IV A → List (IV A) → Option R) : abody (E_F65_ g42 N) Tryz.f65 code_65 0 [] [.asis] N [.d (.int .i64 a1)] k = SS_F65 (@F65_ g42 N) [.d (.int .i64 a1)] k := by kernel_rfl
theorem t_F65 (N : Nat) (a1 : Int) (R : Type) (k : IV A → List (IV A) → Option R) : abody (E_F65 N) Tryz.f65 code_65 0 [] [.asis] N [.d (.int .i64 a1)] k = S_F65 N [.d (.int .i64 a1)] k := tg_F65 (@F42 N) N a1 R k
theorem en_65 : Enters Tryz.prog 65 := enters_of (fn := Tryz.f65) (by kernel_rfl) (by kernel_rfl) (by kernel_rfl)
theorem en_F65 : Enters Tryz.prog 65 := en_65
theorem tl_F65 (N : Nat) : TabL Tryz.prog T (C_F65 N) := (.cons (fs_F42 N) en_F42 .nil)
theorem nl_F65 (N : Nat) : NatL (C_F65 N) := (.cons (na_F42 N) .nil)
theorem ct_F65 (N : Nat) : NatTab (E_F65 N).C := tab_nat (l := C_F65 N) (nl_F65 N)
theorem eo_F65 (N : Nat) : EnvOk (E_F65 N) := ⟨tyOk Tryz.prog, tab_sound (l := C_F65 N) (tl_F65 N), flatOk, keysOk⟩
theorem ll_F65 : loopsOf code_65 = [] := by kernel_rfl
theorem fi_F65 (N : Nat) : FineL (E_F65 N) N [] := .nil
theorem cc_F65 (N : Nat) : CutsOk (E_F65 N) N code_65 := cuts_of (fun _ => rfl) code_65 (by rw [ll_F65]; exact fi_F65 N)
theorem v_F65 (args : List (IV A)) : (∀ (N : Nat) (R : Type) (k : IV A → List (IV A) → Option R), S_F65 N args k = none) ∨ ∃ (a1 : Int), args = [.d (.int .i64 a1)] := by
  by_cases h : ∃ (a1 : Int), args = [.d (.int .i64 a1)]
  · exact .inr h
  · refine .inl (fun N R k => ?_)
    unfold S_F65 SS_F65
    split
    · exact absurd ⟨_, rfl⟩ h
    · rfl
theorem sm_F65 (N : Nat) : Same (S_F65 N) (abody (E_F65 N) Tryz.f65 code_65 0 [] [.asis] N) := by
  intro args
  rcases v_F65 args with h | ⟨a1, rfl⟩
  · exact .inl (h N)
  · exact .inr (fun R k => (t_F65 N a1 R k).symm)
theorem fu_65 : Tryz.prog.funcs[65]? = some Tryz.f65 := by kernel_rfl
theorem bo_65 : Tryz.f65.body = some code_65 := by kernel_rfl
theorem fs_F65 (N : Nat) : FnSound Tryz.prog T 65 (S_F65 N) := fs_of (E_F65 N) rfl rfl (eo_F65 N) (ct_F65 N) mixed fu_65 bo_65 0 [] [.asis] N (cc_F65 N) (sm_F65 N)
theorem na_F65 (N : Nat) : NatSpec (S_F65 N) := na_of (E_F65 N) (ct_F65 N) Tryz.f65 code_65 0 [] [.asis] N (cc_F65 N) (sm_F65 N)
abbrev TF82 : Type 1 := List UInt8 → Int → {R : Type} → (Int → Option R) → Option R
def F82 (N : Nat) : TF82 := @X_ixb
def SS_F82 (g : TF82) : Spec A := SSX_ixb g
def S_F82 (N : Nat) : Spec A := SS_F82 (F82 N)
def p_F82 (args : List (IV A)) : Bool := match args with | [.d (.str _), .d (.int .u8 _)] => true | _ => false
theorem na_F82 (N : Nat) : NatSpec (S_F82 N) := ssx_ixb_nat
theorem fs_F82 (N : Nat) : FnSound Tryz.prog T 82 (S_F82 N) := ssx_ixb_sound (ixb_sound (Any.strings_IndexByte Tryz.lays137))
theorem en_F82 : Enters Tryz.prog 82 := enters_of (fn := Tryz.f82) (by kernel_rfl) (by kernel_rfl) (by kernel_rfl)
abbrev TF83 : Type 1 := List UInt8 → List UInt8 → {R : Type} → (List UInt8 → Option R) → Option R
def F83 (N : Nat) : TF83 := @X_trim
def SS_F83 (g : TF83) : Spec A := SSX_trim g
def S_F83 (N : Nat) : Spec A := SS_F83 (F83 N)
def p_F83 (args : List (IV A)) : Bool := match args with | [.d (.str _), .d (.str _)] => true | _ => false
theorem na_F83 (N : Nat) : NatSpec (S_F83 N) := ssx_trim_nat
theorem fs_F83 (N : Nat) : FnSound Tryz.prog T 83 (S_F83 N) := ssx_trim_sound (trim_sound (fun s cs w h1 h2 h3 => Any.strings_Trim_laid Tryz.lays160 (by kernel_rfl) s cs w h1 h2 h3))
theorem en_F83 : Enters Tryz.prog 83 := enters_of (fn := Tryz.f83) (by kernel_rfl) (by kernel_rfl) (by kernel_rfl)
abbrev TF66 : Type 1 := List UInt8 → {R : Type} → (Bool → Option R) → Option R
def F66_ (g82 : TF82) (g83 : TF83) (N : Nat) (a1 : List UInt8) {R : Type} (k0 : Bool → Option R) : Option R :=
  (bif (!(a1 == [])) then (bif (decide ((a1.length : Int) ≤ 40)) then (match a1[(0 : Int).toNat]? with | some x2 => (g82 [97, 98, 99, 100, 101, 102, 103, 104, 105, 106, 107, 108, 109, 110, 111, 112, 113, 114, 115, 116, 117, 118, 119, 120, 121, 122] (x2.toNat : Int) (fun r3 => (bif (decide (r3 ≥ 0)) then (g83 a1 [97, 98, 99, 100, 101, 102, 103, 104, 105, 106, 107, 108, 109, 110, 111, 112, 113, 114, 115, 116, 117, 118, 119, 120, 121, 122, 48, 49, 50, 51, 52, 53, 54, 55, 56, 57, 45, 95] (fun r4 => k0 (r4 == []))) else k0 false))) | none => none) else k0 false) else k0 false)
def F66 (N : Nat) : TF66 := @F66_ (@F82 N) (@F83 N) N
def p_F66 (args : List (IV A)) : Bool := match args with | [.d (.str _)] => true | _ => false
def SS_F66 (g : TF66) : Spec A := fun args _ k => match args with | [.d (.str a1)] => g a1 (fun z0 => k (.d (.bool z0)) [.undef]) | _ => none
def S_F66 (N : Nat) : Spec A := SS_F66 (F66 N)
noncomputable def code_66 : Code := (Tryz.f66.body).getD .skip
def C_F66_ (g82 : TF82) (g83 : TF83) : List (Nat × Spec A) := [(82, SS_F82 g82), (83, SS_F83 g83)]
def C_F66 (N : Nat) : List (Nat × Spec A) := C_F66_ (@F82 N) (@F83 N)
noncomputable def E_F66_ (g82 : TF82) (g83 : TF83) (N : Nat) : Env A := { P := Tryz.prog, T := T, C := fun f => (C_F66_ g82 g83).lookup f, tg := fun d => ([].lookup d).getD [], seqH := fun _ => none, loopH := fun i => [].lookup i, exitH := fun i => [].lookup i, cutL := fun _ => none, mode := fun f i => [].contains (f, i), keyed := keyT, flat := flatT, pin := [] }
noncomputable def E_F66 (N : Nat) : Env A := E_F66_ (@F82 N) (@F83 N) N
theorem tg_F66 (g82 : TF82) (g83 : TF83) (N : Nat) (a1 : List UInt8) (R : Type) (k : IV A → List (IV A) → Option R) : abody (E_F66_ g82 g83 N) Tryz.f66 code_66 0 [] [.asis] N [.d (.str a1)] k = SS_F66 (@F66_ g82 g83 N) [.d (.str a1)] k := by kernel_rfl
theorem t_F66 (N : Nat) (a1 : List UInt8) (R : Type) (k : IV A → List (IV A) → Option R) : abody (E_F66 N) Tryz.f66 code_66 0 [] [.asis] N [.d (.str a1)] k = S_F66 N [.d (.str a1)] k := tg_F66 (@F82 N) (@F83 N) N a1 R k
theorem en_66 : Enters Tryz.prog 66 := enters_of (fn := Tryz.f66) (by kernel_rfl) (by kernel_rfl) (by kernel_rfl)
theorem en_F66 : Enters Tryz.prog 66 := en_66
theorem tl_F66 (N : Nat) : TabL Tryz.prog T (C_F66 N) := (.cons (fs_F82 N) en_F82 (.cons (fs_F83 N) en_F83 .nil))
theorem nl_F66 (N : Nat) : NatL (C_F66 N) := (.cons (na_F82 N) (.cons (na_F83 N) .nil))
theorem ct_F66 (N : Nat) : NatTab (E_F66 N).C := tab_nat (l := C_F66 N) (nl_F66 N)
theorem eo_F66 (N : Nat) : EnvOk (E_F66 N) := ⟨tyOk Tryz.prog, tab_sound (l := C_F66 N) (tl_F66 N), flatOk, keysOk⟩
theorem ll_F66 : loopsOf code_66 = [] := by kernel_rfl
theorem fi_F66 (N : Nat) : FineL (E_F66 N) N [] := .nil
theorem cc_F66 (N : Nat) : CutsOk (E_F66 N) N code_66 := cuts_of (fun _ => rfl) code_66 (by rw [ll_F66]; exact fi_F66 N)
theorem v_F66 (args : List (IV A)) : (∀ (N : Nat) (R : Type) (k : IV A → List (IV A) → Option R), S_F66 N args k = none) ∨ ∃ (a1 : List UInt8), args = [.d (.str a1)] := by
  by_cases h : ∃ (a1 : List UInt8), args = [.d (.str a1)]
  · exact .inr h
  · refine .inl (fun N R k => ?_)
    unfold S_F66 SS_F66
    split
    · exact absurd ⟨_, rfl⟩ h
    · rfl
theorem sm_F66 (N : Nat) : Same (S_F66 N) (abody (E_F66 N) Tryz.f66 code_66 0 [] [.asis] N) := by
  intro args
  rcases v_F66 args with h | ⟨a1, rfl⟩
  · exact .inl (h N)
  · exact .inr (fun R k => (t_F66 N a1 R k).symm)
theorem fu_66 : Tryz.prog.funcs[66]? = some Tryz.f66 := by kernel_rfl
theorem bo_66 : Tryz.f66.body = some code_66 := by kernel_rfl
theorem fs_F66 (N : Nat) : FnSound Tryz.prog T 66 (S_F66 N) := fs_of (E_F66 N) rfl rfl (eo_F66 N) (ct_F66 N) mixed fu_66 bo_66 0 [] [.asis] N (cc_F66 N) (sm_F66 N)
theorem na_F66 (N : Nat) : NatSpec (S_F66 N) := na_of (E_F66 N) (ct_F66 N) Tryz.f66 code_66 0 [] [.asis] N (cc_F66 N) (sm_F66 N)
abbrev TF129 : Type 1 := Int → {R : Type} → (Bool → Option R) → Option R
def F129_ (N : Nat) (a1 : Int) {R : Type} (k0 : Bool → Option R) : Option R :=
  (bif (decide (a1 ≥ 97)) then k0 ((decide (a1 ≤ 122))) else k0 false)
def F129 (N : Nat) : TF129 := @F129_ N
def p_F129 (args : List (IV A)) : Bool := match args with | [.d (.int .u8 _)] => true | _ => false
def SS_F129 (g : TF129) : Spec A := fun args _ k => match args with | [.d (.int .u8 a1)] => g a1 (fun z0 => k (.d (.bool z0)) [.undef]) | _ => none
def S_F129 (N : Nat) : Spec A := SS_F129 (F129 N)
noncomputable def code_129 : Code := (Tryz.f129.body).getD .skip
def C_F129_ : List (Nat × Spec A) := []
def C_F129 (N : Nat) : List (Nat × Spec A) := C_F129_
noncomputable def E_F129_ (N : Nat) : Env A := { P := Tryz.prog, T := T, C := fun f => (C_F129_).lookup f, tg := fun d => ([].lookup d).getD [], seqH := fun _ => none, loopH := fun i => [].lookup i, exitH := fun i => [].lookup i, cutL := fun _ => none, mode := fun f i => [].contains (f, i), keyed := keyT, flat := flatT, pin := [] }
noncomputable def E_F129 (N : Nat) : Env A := E_F129_ N
theorem tg_F129 (N : Nat) (a1 : Int) (R : Type) (k : IV A → List (IV A) → Option R) : abody (E_F129_ N) Tryz.f129 code_129 0 [] [.asis] N [.d (.int .u8 a1)] k = SS_F129 (@F129_ N) [.d (.int .u8 a1)] k := by kernel_rfl
theorem t_F129 (N : Nat) (a1 : Int) (R : Type) (k : IV A → List (IV A) → Option R) : abody (E_F129 N) Tryz.f129 code_129 0 [] [.asis] N [.d (.int .u8 a1)] k = S_F129 N [.d (.int .u8 a1)] k := tg_F129 N a1 R k
theorem en_129 : Enters Tryz.prog 129 := enters_of (fn := Tryz.f129) (by kernel_rfl) (by kernel_rfl) (by kernel_rfl)
theorem en_F129 : Enters Tryz.prog 129 := en_129
theorem tl_F129 (N : Nat) : TabL Tryz.prog T (C_F129 N) := .nil
theorem nl_F129 (N : Nat) : NatL (C_F129 N) := .nil
theorem ct_F129 (N : Nat) : NatTab (E_F129 N).C := tab_nat (l := C_F129 N) (nl_F129 N)
theorem eo_F129 (N : Nat) : EnvOk (E_F129 N) := ⟨tyOk Tryz.prog, tab_sound (l := C_F129 N) (tl_F129 N), flatOk, keysOk⟩
theorem ll_F129 : loopsOf code_129 = [] := by kernel_rfl
theorem fi_F129 (N : Nat) : FineL (E_F129 N) N [] := .nil
theorem cc_F129 (N : Nat) : CutsOk (E_F129 N) N code_129 := cuts_of (fun _ => rfl) code_129 (by rw [ll_F129]; exact fi_F129 N)
theorem v_F129 (args : List (IV A)) : (∀ (N : Nat) (R : Type) (k : IV A → List (IV A) → Option R), S_F129 N args k = none) ∨ ∃ (a1 : Int), args = [.d (.int .u8 a1)] := by
  by_cases h : ∃ (a1 : Int), args = [.d (.int .u8 a1)]
  · exact .inr h
  · refine .inl (fun N R k => ?_)
    unfold S_F129 SS_F129
    split
    · exact absurd ⟨_, rfl⟩ h
    · rfl
theorem sm_F129 (N : Nat) : Same (S_F129 N) (abody (E_F129 N) Tryz.f129 code_129 0 [] [.asis] N) := by
  intro args
  rcases v_F129 args with h | ⟨a1, rfl⟩
  · exact .inl (h N)
  · exact .inr (fun R k => (t_F129 N a1 R k).symm)
theorem fu_129 : Tryz.prog.funcs[129]? = some Tryz.f129 := by kernel_rfl
theorem bo_129 : Tryz.f129.body = some code_129 := by kernel_rfl
theorem fs_F129 (N : Nat) : FnSound Tryz.prog T 129 (S_F129 N) := fs_of (E_F129 N) rfl rfl (eo_F129 N) (ct_F129 N) mixed fu_129 bo_129 0 [] [.asis] N (cc_F129 N) (sm_F129 N)
theorem na_F129 (N : Nat) : NatSpec (S_F129 N) := na_of (E_F129 N) (ct_F129 N) Tryz.f129 code_129 0 [] [.asis] N (cc_F129 N) (sm_F129 N)
abbrev TF121 : Type 1 := Int → {R : Type} → (Bool → Option R) → Option R
def F121_ (N : Nat) (a1 : Int) {R : Type} (k0 : Bool → Option R) : Option R :=
  (bif (decide (a1 ≥ 48)) then k0 ((decide (a1 ≤ 57))) else k0 false)
def F121 (N : Nat) : TF121 := @F121_ N
def p_F121 (args : List (IV A)) : Bool := match args with | [.d (.int .u8 _)] => true | _ => false
def SS_F121 (g : TF121) : Spec A := fun args _ k => match args with | [.d (.int .u8 a1)] => g a1 (fun z0 => k (.d (.bool z0)) [.undef]) | _ => none
def S_F121 (N : Nat) : Spec A := SS_F121 (F121 N)
noncomputable def code_121 : Code := (Tryz.f121.body).getD .skip
def C_F121_ : List (Nat × Spec A) := []
def C_F121 (N : Nat) : List (Nat × Spec A) := C_F121_
noncomputable def E_F121_ (N : Nat) : Env A := { P := Tryz.prog, T := T, C := fun f => (C_F121_).lookup f, tg := fun d => ([].lookup d).getD [], seqH := fun _ => none, loopH := fun i => [].lookup i, exitH := fun i => [].lookup i, cutL := fun _ => none, mode := fun f i => [].contains (f, i), keyed := keyT, flat := flatT, pin := [] }
noncomputable def E_F121 (N : Nat) : Env A := E_F121_ N
theorem tg_F121 (N : Nat) (a1 : Int) (R : Type) (k : IV A → List (IV A) → Option R) : abody (E_F121_ N) Tryz.f121 code_121 0 [] [.asis] N [.d (.int .u8 a1)] k = SS_F121 (@F121_ N) [.d (.int .u8 a1)] k := by kernel_rfl
theorem t_F121 (N : Nat) (a1 : Int) (R : Type) (k : IV A → List (IV A) → Option R) : abody (E_F121 N) Tryz.f121 code_121 0 [] [.asis] N [.d (.int .u8 a1)] k = S_F121 N [.d (.int .u8 a1)] k := tg_F121 N a1 R k
theorem en_121 : Enters Tryz.prog 121 := enters_of (fn := Tryz.f121) (by kernel_rfl) (by kernel_rfl) (by kernel_rfl)
theorem en_F121 : Enters Tryz.prog 121 := en_121
theorem tl_F121 (N : Nat) : TabL Tryz.prog T (C_F121 N) := .nil
theorem nl_F121 (N : Nat) : NatL (C_F121 N) := .nil
theorem ct_F121 (N : Nat) : NatTab (E_F121 N).C := tab_nat (l := C_F121 N) (nl_F121 N)
theorem eo_F121 (N : Nat) : EnvOk (E_F121 N) := ⟨tyOk Tryz.prog, tab_sound (l := C_F121 N) (tl_F121 N), flatOk, keysOk⟩
theorem ll_F121 : loopsOf code_121 = [] := by kernel_rfl
theorem fi_F121 (N : Nat) : FineL (E_F121 N) N [] := .nil
theorem cc_F121 (N : Nat) : CutsOk (E_F121 N) N code_121 := cuts_of (fun _ => rfl) code_121 (by rw [ll_F121]; exact fi_F121 N)
theorem v_F121 (args : List (IV A)) : (∀ (N : Nat) (R : Type) (k : IV A → List (IV A) → Option R), S_F121 N args k = none) ∨ ∃ (a1 : Int), args = [.d (.int .u8 a1)] := by
  by_cases h : ∃ (a1 : Int), args = [.d (.int .u8 a1)]
  · exact .inr h
  · refine .inl (fun N R k => ?_)
    unfold S_F121 SS_F121
    split
    · exact absurd ⟨_, rfl⟩ h
    · rfl
theorem sm_F121 (N : Nat) : Same (S_F121 N) (abody (E_F121 N) Tryz.f121 code_121 0 [] [.asis] N) := by
  intro args
  rcases v_F121 args with h | ⟨a1, rfl⟩
  · exact .inl (h N)
  · exact .inr (fun R k => (t_F121 N a1 R k).symm)
theorem fu_121 : Tryz.prog.funcs[121]? = some Tryz.f121 := by kernel_rfl
theorem bo_121 : Tryz.f121.body = some code_121 := by kernel_rfl
theorem fs_F121 (N : Nat) : FnSound Tryz.prog T 121 (S_F121 N) := fs_of (E_F121 N) rfl rfl (eo_F121 N) (ct_F121 N) mixed fu_121 bo_121 0 [] [.asis] N (cc_F121 N) (sm_F121 N)
theorem na_F121 (N : Nat) : NatSpec (S_F121 N) := na_of (E_F121 N) (ct_F121 N) Tryz.f121 code_121 0 [] [.asis] N (cc_F121 N) (sm_F121 N)
end Go.Am
