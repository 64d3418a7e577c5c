/- The functions of the program as Lean functions, each shown to be what the code computes, part 6. No condition: lemmas for the claim. -/
import Derived.Test.YthfphbbhjodbcaaGreatDoorF0
import Derived.Test.YthfphbbhjodbcaaGreatDoorFSh
import Derived.Test.YthfphbbhjodbcaaGreatDoorF1
import Derived.Test.YthfphbbhjodbcaaGreatDoorF3
import Derived.Test.YthfphbbhjodbcaaGreatDoorF5
set_option linter.unusedVariables false
set_option maxRecDepth 100000
namespace Go.Am
open Go Go.Proofs
abbrev TF58 : Type 1 := Int → Int → List UInt8 → List UInt8 → Int → Int → List UInt8 → List UInt8 → Int → Int → List UInt8 → List UInt8 → Int → Int → List UInt8 → List UInt8 → {R : Type} → (Int → Option R) → Option R
def F58_ (g74 : TF74) (g79 : TF79) (g80 : TF80) (N : Nat) (a1 : Int) (a2 : Int) (a3 : List UInt8) (a4 : List UInt8) (a5 : Int) (a6 : Int) (a7 : List UInt8) (a8 : List UInt8) (a9 : Int) (a10 : Int) (a11 : List UInt8) (a12 : List UInt8) (a13 : Int) (a14 : Int) (a15 : List UInt8) (a16 : List UInt8) {R : Type} (k0 : Int → Option R) : Option R :=
  (g80 a1 a9 (fun r17 => (g74 a4 a12 (fun r18 => (g74 a3 a11 (fun r19 => (g80 a2 a10 (fun r20 => (g79 [r17, r18, r19, r20] (fun r21 => k0 r21))))))))))
def F58 (N : Nat) : TF58 := @F58_ (@F74 N) (@F79 N) (@F80 N) N
def p_F58 (args : List (IV A)) : Bool := match args with | [.agg [.d (.int .i64 _), .d (.int .i64 _), .d (.str _), .d (.str _), .d (.int .i64 _), .d (.int .i64 _), .d (.str _), .d (.str _)], .agg [.d (.int .i64 _), .d (.int .i64 _), .d (.str _), .d (.str _), .d (.int .i64 _), .d (.int .i64 _), .d (.str _), .d (.str _)]] => true | _ => false
def SS_F58 (g : TF58) : Spec A := fun args _ k => match args with | [.agg [.d (.int .i64 a1), .d (.int .i64 a2), .d (.str a3), .d (.str a4), .d (.int .i64 a5), .d (.int .i64 a6), .d (.str a7), .d (.str a8)], .agg [.d (.int .i64 a9), .d (.int .i64 a10), .d (.str a11), .d (.str a12), .d (.int .i64 a13), .d (.int .i64 a14), .d (.str a15), .d (.str a16)]] => g a1 a2 a3 a4 a5 a6 a7 a8 a9 a10 a11 a12 a13 a14 a15 a16 (fun z0 => k (.d (.int .i64 z0)) [.undef, .undef]) | _ => none
def S_F58 (N : Nat) : Spec A := SS_F58 (F58 N)
noncomputable def code_58 : Code := (Tryz.f58.body).getD .skip
def C_F58_ (g74 : TF74) (g79 : TF79) (g80 : TF80) : List (Nat × Spec A) := [(74, SS_F74 g74), (79, SS_F79 g79), (80, SS_F80 g80)]
def C_F58 (N : Nat) : List (Nat × Spec A) := C_F58_ (@F74 N) (@F79 N) (@F80 N)
noncomputable def E_F58_ (g74 : TF74) (g79 : TF79) (g80 : TF80) (N : Nat) : Env A := { P := Tryz.prog, T := T, C := fun f => (C_F58_ g74 g79 g80).lookup f, tg := fun d => ([(2, [0]), (3, [1]), (25, [2])].lookup d).getD [], seqH := fun _ => none, loopH := fun i => [].lookup i, exitH := fun i => [].lookup i, cutL := fun _ => none, mode := fun f i => [].contains (f, i), keyed := keyT, flat := flatT, pin := [] }
noncomputable def E_F58 (N : Nat) : Env A := E_F58_ (@F74 N) (@F79 N) (@F80 N) N
theorem tg_F58 (g74 : TF74) (g79 : TF79) (g80 : TF80) (N : Nat) (a1 : Int) (a2 : Int) (a3 : List UInt8) (a4 : List UInt8) (a5 : Int) (a6 : Int) (a7 : List UInt8) (a8 : List UInt8) (a9 : Int) (a10 : Int) (a11 : List UInt8) (a12 : List UInt8) (a13 : Int) (a14 : Int) (a15 : List UInt8) (a16 : List UInt8) (R : Type) (k : IV A → List (IV A) → Option R) : abody (E_F58_ g74 g79 g80 N) Tryz.f58 code_58 3 [] [.asis] N [.agg [.d (.int .i64 a1), .d (.int .i64 a2), .d (.str a3), .d (.str a4), .d (.int .i64 a5), .d (.int .i64 a6), .d (.str a7), .d (.str a8)], .agg [.d (.int .i64 a9), .d (.int .i64 a10), .d (.str a11), .d (.str a12), .d (.int .i64 a13), .d (.int .i64 a14), .d (.str a15), .d (.str a16)]] k = SS_F58 (@F58_ g74 g79 g80 N) [.agg [.d (.int .i64 a1), .d (.int .i64 a2), .d (.str a3), .d (.str a4), .d (.int .i64 a5), .d (.int .i64 a6), .d (.str a7), .d (.str a8)], .agg [.d (.int .i64 a9), .d (.int .i64 a10), .d (.str a11), .d (.str a12), .d (.int .i64 a13), .d (.int .i64 a14), .d (.str a15), .d (.str a16)]] k := by kernel_rfl
theorem t_F58 (N : Nat) (a1 : Int) (a2 : Int) (a3 : List UInt8) (a4 : List UInt8) (a5 : Int) (a6 : Int) (a7 : List UInt8) (a8 : List UInt8) (a9 : Int) (a10 : Int) (a11 : List UInt8) (a12 : List UInt8) (a13 : Int) (a14 : Int) (a15 : List UInt8) (a16 : List UInt8) (R : Type) (k : IV A → List (IV A) → Option R) : abody (E_F58 N) Tryz.f58 code_58 3 [] [.asis] N [.agg [.d (.int .i64 a1), .d (.int .i64 a2), .d (.str a3), .d (.str a4), .d (.int .i64 a5), .d (.int .i64 a6), .d (.str a7), .d (.str a8)], .agg [.d (.int .i64 a9), .d (.int .i64 a10), .d (.str a11), .d (.str a12), .d (.int .i64 a13), .d (.int .i64 a14), .d (.str a15), .d (.str a16)]] k = S_F58 N [.agg [.d (.int .i64 a1), .d (.int .i64 a2), .d (.str a3), .d (.str a4), .d (.int .i64 a5), .d (.int .i64 a6), .d (.str a7), .d (.str a8)], .agg [.d (.int .i64 a9), .d (.int .i64 a10), .d (.str a11), .d (.str a12), .d (.int .i64 a13), .d (.int .i64 a14), .d (.str a15), .d (.str a16)]] k := tg_F58 (@F74 N) (@F79 N) (@F80 N) N a1 a2 a3 a4 a5 a6 a7 a8 a9 a10 a11 a12 a13 a14 a15 a16 R k
theorem en_58 : Enters Tryz.prog 58 := enters_of (fn := Tryz.f58) (by kernel_rfl) (by kernel_rfl) (by kernel_rfl)
theorem en_F58 : Enters Tryz.prog 58 := en_58
theorem tl_F58 (N : Nat) : TabL Tryz.prog T (C_F58 N) := (.cons (fs_F74 N) en_F74 (.cons (fs_F79 N) en_F79 (.cons (fs_F80 N) en_F80 .nil)))
theorem nl_F58 (N : Nat) : NatL (C_F58 N) := (.cons (na_F74 N) (.cons (na_F79 N) (.cons (na_F80 N) .nil)))
theorem ct_F58 (N : Nat) : NatTab (E_F58 N).C := tab_nat (l := C_F58 N) (nl_F58 N)
theorem eo_F58 (N : Nat) : EnvOk (E_F58 N) := ⟨tyOk Tryz.prog, tab_sound (l := C_F58 N) (tl_F58 N), flatOk, keysOk⟩
theorem ll_F58 : loopsOf code_58 = [] := by kernel_rfl
theorem fi_F58 (N : Nat) : FineL (E_F58 N) N [] := .nil
theorem cc_F58 (N : Nat) : CutsOk (E_F58 N) N code_58 := cuts_of (fun _ => rfl) code_58 (by rw [ll_F58]; exact fi_F58 N)
theorem v_F58 (args : List (IV A)) : (∀ (N : Nat) (R : Type) (k : IV A → List (IV A) → Option R), S_F58 N args k = none) ∨ ∃ (a1 : Int) (a2 : Int) (a3 : List UInt8) (a4 : List UInt8) (a5 : Int) (a6 : Int) (a7 : List UInt8) (a8 : List UInt8) (a9 : Int) (a10 : Int) (a11 : List UInt8) (a12 : List UInt8) (a13 : Int) (a14 : Int) (a15 : List UInt8) (a16 : List UInt8), args = [.agg [.d (.int .i64 a1), .d (.int .i64 a2), .d (.str a3), .d (.str a4), .d (.int .i64 a5), .d (.int .i64 a6), .d (.str a7), .d (.str a8)], .agg [.d (.int .i64 a9), .d (.int .i64 a10), .d (.str a11), .d (.str a12), .d (.int .i64 a13), .d (.int .i64 a14), .d (.str a15), .d (.str a16)]] := by
  by_cases h : ∃ (a1 : Int) (a2 : Int) (a3 : List UInt8) (a4 : List UInt8) (a5 : Int) (a6 : Int) (a7 : List UInt8) (a8 : List UInt8) (a9 : Int) (a10 : Int) (a11 : List UInt8) (a12 : List UInt8) (a13 : Int) (a14 : Int) (a15 : List UInt8) (a16 : List UInt8), args = [.agg [.d (.int .i64 a1), .d (.int .i64 a2), .d (.str a3), .d (.str a4), .d (.int .i64 a5), .d (.int .i64 a6), .d (.str a7), .d (.str a8)], .agg [.d (.int .i64 a9), .d (.int .i64 a10), .d (.str a11), .d (.str a12), .d (.int .i64 a13), .d (.int .i64 a14), .d (.str a15), .d (.str a16)]]
  · exact .inr h
  · refine .inl (fun N R k => ?_)
    unfold S_F58 SS_F58
    split
    · exact absurd ⟨_, _, _, _, _, _, _, _, _, _, _, _, _, _, _, _, rfl⟩ h
    · rfl
theorem sm_F58 (N : Nat) : Same (S_F58 N) (abody (E_F58 N) Tryz.f58 code_58 3 [] [.asis] N) := by
  intro args
  rcases v_F58 args with h | ⟨a1, a2, a3, a4, a5, a6, a7, a8, a9, a10, a11, a12, a13, a14, a15, a16, rfl⟩
  · exact .inl (h N)
  · exact .inr (fun R k => (t_F58 N a1 a2 a3 a4 a5 a6 a7 a8 a9 a10 a11 a12 a13 a14 a15 a16 R k).symm)
theorem fu_58 : Tryz.prog.funcs[58]? = some Tryz.f58 := by kernel_rfl
theorem bo_58 : Tryz.f58.body = some code_58 := by kernel_rfl
theorem fs_F58 (N : Nat) : FnSound Tryz.prog T 58 (S_F58 N) := fs_of (E_F58 N) rfl rfl (eo_F58 N) (ct_F58 N) mixed fu_58 bo_58 3 [] [.asis] N (cc_F58 N) (sm_F58 N)
theorem na_F58 (N : Nat) : NatSpec (S_F58 N) := na_of (E_F58 N) (ct_F58 N) Tryz.f58 code_58 3 [] [.asis] N (cc_F58 N) (sm_F58 N)
def L37_4 (g35 : TF35) (g58 : TF58) : Nat → Nat → List (G_Contact) → List (G_Contact) → Int → Int → {R : Type} → (Int → Option R) → (Option R) → Option R
  | _, 0, _, _, _, _, _, _, _ => none
  | N, n + 1, v2, v3, v4, v5, _, e0, e1 => (bif (decide (v5 < v4)) then (bif (decide (0 ≤ v5)) then (match v3[(v5 : Int).toNat]? with | some x10 => (g35 x10.f_At x10.f_Mode x10.f_Band x10.f_Call x10.f_Sent x10.f_Heard x10.f_Gave x10.f_Got (fun r11 => (bif (r11 != 0) then e0 r11 else (bif (decide (v5 > 0)) then (bif (decide (0 ≤ (IntKind.i64.wrap (v5 - 1)))) then (match v2[((IntKind.i64.wrap (v5 - 1)) : Int).toNat]? with | some x12 => (g58 x12.f_At x12.f_Mode x12.f_Band x12.f_Call x12.f_Sent x12.f_Heard x12.f_Gave x12.f_Got x10.f_At x10.f_Mode x10.f_Band x10.f_Call x10.f_Sent x10.f_Heard x10.f_Gave x10.f_Got (fun r13 => (bif (decide (r13 ≥ 0)) then e0 7 else L37_4 g35 g58 N n v2 v3 v4 ((IntKind.i64.wrap (v5 + 1))) e0 e1))) | none => none) else none) else L37_4 g35 g58 N n v2 v3 v4 ((IntKind.i64.wrap (v5 + 1))) e0 e1)))) | none => none) else none) else e1)
abbrev TF37 : Type 1 := List (G_Contact) → {R : Type} → (Int → Option R) → Option R
def F37_ (g35 : TF35) (g58 : TF58) (N : Nat) (a1 : List (G_Contact)) {R : Type} (k0 : Int → Option R) : Option R :=
  (bif (decide ((a1.length : Int) > 2000)) then k0 2 else (L37_4 g35 g58 N N a1 a1 (a1.length : Int) 0 (fun e14 => k0 e14) (k0 0)))
def F37 (N : Nat) : TF37 := @F37_ (@F35 N) (@F58 N) N
def p_F37 (args : List (IV A)) : Bool := match args with | [.d (.sl 58 _)] => true | _ => false
def SS_F37 (g : TF37) : Spec A := fun args _ k => match args with | [.d (.sl 58 a1)] => g a1 (fun z0 => k (.d (.int .i64 z0)) [.undef]) | _ => none
def S_F37 (N : Nat) : Spec A := SS_F37 (F37 N)
def sh_L37_4 : SSt := { fr := sparse .undef 34 [(0, .sl 58), (9, .sl 58), (10, .int .i64), (11, .int .i64)], st := sparse .none 1 [] }
def LP_L37_4 (g35 : TF35) (g58 : TF58) (N n : Nat) (ps : List (Pv A)) {R : Type} (K : Ex → St A → Option R) : Option R := match ps with | [.d (.sl 58 p0), .d (.sl 58 p1), .d (.int .i64 p2), .d (.int .i64 p3)] => L37_4 g35 g58 N n p0 p1 p2 p3 (fun z0 => K .ret { fr := sparse .undef 34 [(2, .d (.int .i64 z0))], st := sparse none 1 [] }) (K (.exit 0) { fr := sparse .undef 34 [], st := sparse none 1 [] }) | _ => none
def LS_L37_4 (g35 : TF35) (g58 : TF58) (N n : Nat) : Piece A := fun S _ K => match decSt sh_L37_4 S with | some ps => LP_L37_4 g35 g58 N n ps K | none => none
noncomputable def code_37 : Code := (Tryz.f37.body).getD .skip
def C_F37_ (g35 : TF35) (g58 : TF58) : List (Nat × Spec A) := [(35, SS_F35 g35), (58, SS_F58 g58)]
def C_F37 (N : Nat) : List (Nat × Spec A) := C_F37_ (@F35 N) (@F58 N)
noncomputable def E_F37_ (g35 : TF35) (g58 : TF58) (N : Nat) : Env A := { P := Tryz.prog, T := T, C := fun f => (C_F37_ g35 g58).lookup f, tg := fun d => ([(4, [0])].lookup d).getD [], seqH := fun _ => none, loopH := fun i => [(4, ({ keep := [0, 9, 10, 11], canon := [], stay := [] } : Hint))].lookup i, exitH := fun i => [(4, ({ keep := [2], canon := [], stay := [] } : Hint))].lookup i, cutL := fun i => [(4, LS_L37_4 g35 g58 N N)].lookup i, mode := fun f i => [].contains (f, i), keyed := keyT, flat := flatT, pin := [] }
noncomputable def E_F37 (N : Nat) : Env A := E_F37_ (@F35 N) (@F58 N) N
theorem tg_F37 (g35 : TF35) (g58 : TF58) (N : Nat) (a1 : List (G_Contact)) (R : Type) (k : IV A → List (IV A) → Option R) : abody (E_F37_ g35 g58 N) Tryz.f37 code_37 1 [] [.asis] N [.d (.sl 58 a1)] k = SS_F37 (@F37_ g35 g58 N) [.d (.sl 58 a1)] k := by kernel_rfl
theorem t_F37 (N : Nat) (a1 : List (G_Contact)) (R : Type) (k : IV A → List (IV A) → Option R) : abody (E_F37 N) Tryz.f37 code_37 1 [] [.asis] N [.d (.sl 58 a1)] k = S_F37 N [.d (.sl 58 a1)] k := tg_F37 (@F35 N) (@F58 N) N a1 R k
noncomputable def cb_L37_4 : Code := sub [1, 1, 0, 1, 0, 0] code_37
noncomputable def bd_L37_4 (g35 : TF35) (g58 : TF58) (N : Nat) : Piece A := around (fun S _ K => aexec (E_F37_ g35 g58 N) N cb_L37_4 S K) ((firstReg cb_L37_4).bind (E_F37_ g35 g58 N).loopH) ((firstReg cb_L37_4).bind (E_F37_ g35 g58 N).exitH)
theorem b_L37_4 (g35 : TF35) (g58 : TF58) (N n : Nat) (p0 : List (G_Contact)) (p1 : List (G_Contact)) (p2 : Int) (p3 : Int) (R : Type) (K : Ex → St A → Option R) : bd_L37_4 g35 g58 N { fr := sparse .undef 34 [(0, .d (.sl 58 p0)), (9, .d (.sl 58 p1)), (10, .d (.int .i64 p2)), (11, .d (.int .i64 p3))], st := sparse none 1 [] } (fun e S' => match e with | .normal => LS_L37_4 g35 g58 N n S' K | e => K e S') = LP_L37_4 g35 g58 N (n + 1) [.d (.sl 58 p0), .d (.sl 58 p1), .d (.int .i64 p2), .d (.int .i64 p3)] K := by kernel_rfl
theorem m_L37_4 (g35 : TF35) (g58 : TF58) (ps : List (Pv A)) : (∀ (N n : Nat) (R : Type) (K : Ex → St A → Option R), LP_L37_4 g35 g58 N n ps K = none) ∨ ∃ (p0 : List (G_Contact)) (p1 : List (G_Contact)) (p2 : Int) (p3 : Int), ps = [.d (.sl 58 p0), .d (.sl 58 p1), .d (.int .i64 p2), .d (.int .i64 p3)] := by
  by_cases h : ∃ (p0 : List (G_Contact)) (p1 : List (G_Contact)) (p2 : Int) (p3 : Int), ps = [.d (.sl 58 p0), .d (.sl 58 p1), .d (.int .i64 p2), .d (.int .i64 p3)]
  · exact .inr h
  · refine .inl (fun N n R K => ?_)
    unfold LP_L37_4
    split
    · exact absurd ⟨_, _, _, _, rfl⟩ h
    · rfl
theorem s_L37_4 (g35 : TF35) (g58 : TF58) (N n : Nat) (S : St A) : (∀ (R : Type) (K : Ex → St A → Option R), LS_L37_4 g35 g58 N (n + 1) S K = none) ∨ ∀ (R : Type) (K : Ex → St A → Option R), LS_L37_4 g35 g58 N (n + 1) S K = bd_L37_4 g35 g58 N S (fun e S' => match e with | .normal => LS_L37_4 g35 g58 N n S' K | e => K e S') := by
  cases hd : decSt sh_L37_4 S with
  | none => exact .inl (fun R K => by unfold LS_L37_4; rw [hd])
  | some ps =>
    have he := decSt_enc hd
    rcases m_L37_4 g35 g58 ps with h | ⟨p0, p1, p2, p3, rfl⟩
    · exact .inl (fun R K => by unfold LS_L37_4; rw [hd]; exact h N (n + 1) R K)
    · have hS : encSt (A := A) sh_L37_4 [.d (.sl 58 p0), .d (.sl 58 p1), .d (.int .i64 p2), .d (.int .i64 p3)] = some { fr := sparse .undef 34 [(0, .d (.sl 58 p0)), (9, .d (.sl 58 p1)), (10, .d (.int .i64 p2)), (11, .d (.int .i64 p3))], st := sparse none 1 [] } := by kernel_rfl
      rw [hS] at he
      obtain rfl := Option.some.inj he
      refine .inr (fun R K => ?_)
      rw [b_L37_4]
      unfold LS_L37_4
      rw [hd]
theorem z_L37_4 (g35 : TF35) (g58 : TF58) (N : Nat) (R : Type) (S : St A) (K : Ex → St A → Option R) : LS_L37_4 g35 g58 N 0 S K = none := by
  unfold LS_L37_4
  cases decSt sh_L37_4 S with
  | none => rfl
  | some ps =>
    simp only
    unfold LP_L37_4
    split <;> (try unfold L37_4) <;> rfl
theorem en_37 : Enters Tryz.prog 37 := enters_of (fn := Tryz.f37) (by kernel_rfl) (by kernel_rfl) (by kernel_rfl)
theorem en_F37 : Enters Tryz.prog 37 := en_37
theorem tl_F37 (N : Nat) : TabL Tryz.prog T (C_F37 N) := (.cons (fs_F35 N) en_F35 (.cons (fs_F58 N) en_F58 .nil))
theorem nl_F37 (N : Nat) : NatL (C_F37 N) := (.cons (na_F35 N) (.cons (na_F58 N) .nil))
theorem ct_F37 (N : Nat) : NatTab (E_F37 N).C := tab_nat (l := C_F37 N) (nl_F37 N)
theorem eo_F37 (N : Nat) : EnvOk (E_F37 N) := ⟨tyOk Tryz.prog, tab_sound (l := C_F37 N) (tl_F37 N), flatOk, keysOk⟩
theorem ll_L37_4 : loopsOf cb_L37_4 = [] := by kernel_rfl
theorem fi_L37_4 (N : Nat) : FineL (E_F37 N) N [] := .nil
theorem cc_L37_4 (N : Nat) : CutsOk (E_F37 N) N cb_L37_4 := cuts_of (fun _ => rfl) cb_L37_4 (by rw [ll_L37_4]; exact fi_L37_4 N)
theorem cg_L37_4 (g35 : TF35) (g58 : TF58) (N : Nat) : (firstReg cb_L37_4).bind (E_F37_ g35 g58 N).cutL = some (LS_L37_4 g35 g58 N N) := by kernel_rfl
theorem ce_L37_4 (N : Nat) : (firstReg cb_L37_4).bind (E_F37 N).cutL = some (LS_L37_4 (@F35 N) (@F58 N) N N) := cg_L37_4 (@F35 N) (@F58 N) N
theorem lf_L37_4 (N : Nat) : LoopFine (E_F37 N) N cb_L37_4 := fine_of (LS_L37_4 (@F35 N) (@F58 N) N) (ce_L37_4 N) (ct_F37 N) (cc_L37_4 N) (z_L37_4 (@F35 N) (@F58 N) N) (s_L37_4 (@F35 N) (@F58 N) N)
theorem ll_F37 : loopsOf code_37 = [cb_L37_4] := by kernel_rfl
theorem fi_F37 (N : Nat) : FineL (E_F37 N) N [cb_L37_4] := (.cons (lf_L37_4 N) .nil)
theorem cc_F37 (N : Nat) : CutsOk (E_F37 N) N code_37 := cuts_of (fun _ => rfl) code_37 (by rw [ll_F37]; exact fi_F37 N)
theorem v_F37 (args : List (IV A)) : (∀ (N : Nat) (R : Type) (k : IV A → List (IV A) → Option R), S_F37 N args k = none) ∨ ∃ (a1 : List (G_Contact)), args = [.d (.sl 58 a1)] := by
  by_cases h : ∃ (a1 : List (G_Contact)), args = [.d (.sl 58 a1)]
  · exact .inr h
  · refine .inl (fun N R k => ?_)
    unfold S_F37 SS_F37
    split
    · exact absurd ⟨_, rfl⟩ h
    · rfl
theorem sm_F37 (N : Nat) : Same (S_F37 N) (abody (E_F37 N) Tryz.f37 code_37 1 [] [.asis] N) := by
  intro args
  rcases v_F37 args with h | ⟨a1, rfl⟩
  · exact .inl (h N)
  · exact .inr (fun R k => (t_F37 N a1 R k).symm)
theorem fu_37 : Tryz.prog.funcs[37]? = some Tryz.f37 := by kernel_rfl
theorem bo_37 : Tryz.f37.body = some code_37 := by kernel_rfl
theorem fs_F37 (N : Nat) : FnSound Tryz.prog T 37 (S_F37 N) := fs_of (E_F37 N) rfl rfl (eo_F37 N) (ct_F37 N) mixed fu_37 bo_37 1 [] [.asis] N (cc_F37 N) (sm_F37 N)
theorem na_F37 (N : Nat) : NatSpec (S_F37 N) := na_of (E_F37 N) (ct_F37 N) Tryz.f37 code_37 1 [] [.asis] N (cc_F37 N) (sm_F37 N)
def L9_7 (g37 : TF37) : Nat → Nat → Int → List (G_Contact) → Int → Int → List ((Int) × (Int)) → {R : Type} → (Int → List ((Int) × (Int)) → Option R) → Option R
  | _, 0, _, _, _, _, _, _, _ => none
  | N, n + 1, v3, v4, v5, v6, v7, _, e0 => (bif (decide (v6 < v5)) then (bif (decide (0 ≤ v6)) then (match v4[(v6 : Int).toNat]? with | some x9 => L9_7 g37 N n (if x9.f_Sent > v3 then x9.f_Sent else v3) v4 v5 ((IntKind.i64.wrap (v6 + 1))) ((mset_3_3 x9.f_Sent (IntKind.i64.wrap (((mget_3_3 x9.f_Sent v7).getD 0) + 1)) v7)) e0 | none => none) else none) else e0 v3 v7)
def L9_15 (g37 : TF37) : Nat → Nat → Int → Int → List ((Int) × (Int)) → List (G_Row) → List (Int) → {R : Type} → (List (G_Row) → List (Int) → Option R) → Option R
  | _, 0, _, _, _, _, _, _, _ => none
  | N, n + 1, v12, v13, v14, v15, v16, _, e0 => (bif (decide (v13 ≤ v12)) then (bif (decide (((mget_3_3 v13 v14).getD 0) > 1)) then (bif (decide ((v16.length + [v13].length) * 8 ≤ roomBytes')) then L9_15 g37 N n v12 ((IntKind.i64.wrap (v13 + 1))) v14 v15 (v16 ++ [v13]) e0 else none) else (bif (((mget_3_3 v13 v14).getD 0) == 1) then L9_15 g37 N n v12 ((IntKind.i64.wrap (v13 + 1))) v14 v15 v16 e0 else (bif (decide ((v15.length : Int) > 0)) then (bif (decide (0 ≤ (IntKind.i64.wrap ((v15.length : Int) - 1))) && decide ((IntKind.i64.wrap ((v15.length : Int) - 1)) < (v15.length : Int))) then (match v15[((IntKind.i64.wrap ((v15.length : Int) - 1)) : Int).toNat]? with | some x20 => (bif (x20.f_To == v13) then (bif (decide (0 ≤ (IntKind.i64.wrap ((v15.length : Int) - 1))) && decide ((IntKind.i64.wrap ((v15.length : Int) - 1)) < (v15.length : Int))) then (match v15[((IntKind.i64.wrap ((v15.length : Int) - 1)) : Int).toNat]? with | some x21 => (bif (decide (0 ≤ (IntKind.i64.wrap ((v15.length : Int) - 1))) && decide ((IntKind.i64.wrap ((v15.length : Int) - 1)) < (v15.length : Int))) then (match v15[((IntKind.i64.wrap ((v15.length : Int) - 1)) : Int).toNat]? with | some x22 => L9_15 g37 N n v12 ((IntKind.i64.wrap (v13 + 1))) v14 ((v15.set ((IntKind.i64.wrap ((v15.length : Int) - 1)) : Int).toNat (⟨x22.f_From, (IntKind.i64.wrap (x21.f_To + 1))⟩ : G_Row))) v16 e0 | none => none) else none) | none => none) else none) else (bif (decide ((v15.length + [(⟨v13, (IntKind.i64.wrap (v13 + 1))⟩ : G_Row)].length) * 16 ≤ roomBytes')) then L9_15 g37 N n v12 ((IntKind.i64.wrap (v13 + 1))) v14 ((v15 ++ [(⟨v13, (IntKind.i64.wrap (v13 + 1))⟩ : G_Row)])) v16 e0 else none)) | none => none) else none) else (bif (decide ((v15.length + [(⟨v13, (IntKind.i64.wrap (v13 + 1))⟩ : G_Row)].length) * 16 ≤ roomBytes')) then L9_15 g37 N n v12 ((IntKind.i64.wrap (v13 + 1))) v14 ((v15 ++ [(⟨v13, (IntKind.i64.wrap (v13 + 1))⟩ : G_Row)])) v16 e0 else none)))) else e0 v15 v16)
abbrev TF9 : Type 1 := List (G_Contact) → {R : Type} → (List (G_Row) → List (Int) → Int → Option R) → Option R
def F9_ (g37 : TF37) (N : Nat) (a1 : List (G_Contact)) {R : Type} (k0 : List (G_Row) → List (Int) → Int → Option R) : Option R :=
  (g37 a1 (fun r2 => (bif (r2 != 0) then k0 [] [] r2 else (L9_7 g37 N N 0 a1 (a1.length : Int) 0 [] (fun e10 e11 => (L9_15 g37 N N e10 1 e11 [] [] (fun e23 e24 => k0 e23 e24 0)))))))
def F9 (N : Nat) : TF9 := @F9_ (@F37 N) N
def p_F9 (args : List (IV A)) : Bool := match args with | [.d (.sl 58 _)] => true | _ => false
def SS_F9 (g : TF9) : Spec A := fun args _ k => match args with | [.d (.sl 58 a1)] => g a1 (fun z0 z1 z2 => k (.tup [.arr 54 z0, .arr 3 z1, .d (.int .i64 z2)]) [.undef]) | _ => none
def S_F9 (N : Nat) : Spec A := SS_F9 (F9 N)
def sh_L9_7 : SSt := { fr := sparse .undef 88 [(6, .mp 0), (7, .int .i64), (19, .sl 58), (20, .int .i64), (21, .int .i64)], st := sparse .none 8 [(0, .mp 3 3)] }
def LP_L9_7 (g37 : TF37) (N n : Nat) (ps : List (Pv A)) {R : Type} (K : Ex → St A → Option R) : Option R := match ps with | [.d (.int .i64 p0), .d (.sl 58 p1), .d (.int .i64 p2), .d (.int .i64 p3), .mp 3 3 p4] => L9_7 g37 N n p0 p1 p2 p3 p4 (fun z0 z1 => K (.exit 0) { fr := sparse .undef 88 [(6, .mp 0), (7, .d (.int .i64 z0))], st := sparse none 8 [(0, some (.mp 3 3 z1))] }) | _ => none
def LS_L9_7 (g37 : TF37) (N n : Nat) : Piece A := fun S _ K => match decSt sh_L9_7 S with | some ps => LP_L9_7 g37 N n ps K | none => none
def sh_L9_15 : SSt := { fr := sparse .undef 88 [(6, .mp 0), (7, .int .i64), (10, .own 54 2), (11, .own 3 3), (12, .int .i64)], st := sparse .none 8 [(0, .mp 3 3), (2, .row 54), (3, .row 3)] }
def LP_L9_15 (g37 : TF37) (N n : Nat) (ps : List (Pv A)) {R : Type} (K : Ex → St A → Option R) : Option R := match ps with | [.d (.int .i64 p0), .d (.int .i64 p1), .mp 3 3 p2, .d (.sl 54 p3), .d (.sl 3 p4)] => L9_15 g37 N n p0 p1 p2 p3 p4 (fun z0 z1 => K (.exit 2) { fr := sparse .undef 88 [(10, .own 54 2), (11, .own 3 3)], st := sparse none 8 [(2, some (.row 54 z0)), (3, some (.row 3 z1))] }) | _ => none
def LS_L9_15 (g37 : TF37) (N n : Nat) : Piece A := fun S _ K => match decSt sh_L9_15 S with | some ps => LP_L9_15 g37 N n ps K | none => none
noncomputable def code_9 : Code := (Tryz.f9.body).getD .skip
def C_F9_ (g37 : TF37) : List (Nat × Spec A) := [(37, SS_F37 g37)]
def C_F9 (N : Nat) : List (Nat × Spec A) := C_F9_ (@F37 N)
noncomputable def E_F9_ (g37 : TF37) (N : Nat) : Env A := { P := Tryz.prog, T := T, C := fun f => (C_F9_ g37).lookup f, tg := fun d => ([(9, [1]), (18, [0]), (45, [6]), (46, [7]), (54, [4]), (55, [5])].lookup d).getD [], seqH := fun _ => none, loopH := fun i => [(7, ({ keep := [6, 7, 19, 20, 21], canon := [], stay := [0] } : Hint)), (15, ({ keep := [6, 7, 10, 11, 12], canon := [(10, 54, 2), (11, 3, 3)], stay := [0] } : Hint))].lookup i, exitH := fun i => [(7, ({ keep := [6, 7], canon := [], stay := [0] } : Hint)), (15, ({ keep := [10, 11], canon := [], stay := [2, 3] } : Hint))].lookup i, cutL := fun i => [(7, LS_L9_7 g37 N N), (15, LS_L9_15 g37 N N)].lookup i, mode := fun f i => [].contains (f, i), keyed := keyT, flat := flatT, pin := [] }
noncomputable def E_F9 (N : Nat) : Env A := E_F9_ (@F37 N) N
theorem tg_F9 (g37 : TF37) (N : Nat) (a1 : List (G_Contact)) (R : Type) (k : IV A → List (IV A) → Option R) : abody (E_F9_ g37 N) Tryz.f9 code_9 8 [] [.arr 54, .arr 3, .asis] N [.d (.sl 58 a1)] k = SS_F9 (@F9_ g37 N) [.d (.sl 58 a1)] k := by kernel_rfl
theorem t_F9 (N : Nat) (a1 : List (G_Contact)) (R : Type) (k : IV A → List (IV A) → Option R) : abody (E_F9 N) Tryz.f9 code_9 8 [] [.arr 54, .arr 3, .asis] N [.d (.sl 58 a1)] k = S_F9 N [.d (.sl 58 a1)] k := tg_F9 (@F37 N) N a1 R k
noncomputable def cb_L9_7 : Code := sub [1, 1, 1, 1, 0, 1, 0, 0] code_9
noncomputable def bd_L9_7 (g37 : TF37) (N : Nat) : Piece A := around (fun S _ K => aexec (E_F9_ g37 N) N cb_L9_7 S K) ((firstReg cb_L9_7).bind (E_F9_ g37 N).loopH) ((firstReg cb_L9_7).bind (E_F9_ g37 N).exitH)
theorem b_L9_7 (g37 : TF37) (N n : Nat) (p0 : Int) (p1 : List (G_Contact)) (p2 : Int) (p3 : Int) (p4 : List ((Int) × (Int))) (R : Type) (K : Ex → St A → Option R) : bd_L9_7 g37 N { fr := sparse .undef 88 [(6, .mp 0), (7, .d (.int .i64 p0)), (19, .d (.sl 58 p1)), (20, .d (.int .i64 p2)), (21, .d (.int .i64 p3))], st := sparse none 8 [(0, some (.mp 3 3 p4))] } (fun e S' => match e with | .normal => LS_L9_7 g37 N n S' K | e => K e S') = LP_L9_7 g37 N (n + 1) [.d (.int .i64 p0), .d (.sl 58 p1), .d (.int .i64 p2), .d (.int .i64 p3), .mp 3 3 p4] K := by kernel_rfl
theorem m_L9_7 (g37 : TF37) (ps : List (Pv A)) : (∀ (N n : Nat) (R : Type) (K : Ex → St A → Option R), LP_L9_7 g37 N n ps K = none) ∨ ∃ (p0 : Int) (p1 : List (G_Contact)) (p2 : Int) (p3 : Int) (p4 : List ((Int) × (Int))), ps = [.d (.int .i64 p0), .d (.sl 58 p1), .d (.int .i64 p2), .d (.int .i64 p3), .mp 3 3 p4] := by
  by_cases h : ∃ (p0 : Int) (p1 : List (G_Contact)) (p2 : Int) (p3 : Int) (p4 : List ((Int) × (Int))), ps = [.d (.int .i64 p0), .d (.sl 58 p1), .d (.int .i64 p2), .d (.int .i64 p3), .mp 3 3 p4]
  · exact .inr h
  · refine .inl (fun N n R K => ?_)
    unfold LP_L9_7
    split
    · exact absurd ⟨_, _, _, _, _, rfl⟩ h
    · rfl
theorem s_L9_7 (g37 : TF37) (N n : Nat) (S : St A) : (∀ (R : Type) (K : Ex → St A → Option R), LS_L9_7 g37 N (n + 1) S K = none) ∨ ∀ (R : Type) (K : Ex → St A → Option R), LS_L9_7 g37 N (n + 1) S K = bd_L9_7 g37 N S (fun e S' => match e with | .normal => LS_L9_7 g37 N n S' K | e => K e S') := by
  cases hd : decSt sh_L9_7 S with
  | none => exact .inl (fun R K => by unfold LS_L9_7; rw [hd])
  | some ps =>
    have he := decSt_enc hd
    rcases m_L9_7 g37 ps with h | ⟨p0, p1, p2, p3, p4, rfl⟩
    · exact .inl (fun R K => by unfold LS_L9_7; rw [hd]; exact h N (n + 1) R K)
    · have hS : encSt (A := A) sh_L9_7 [.d (.int .i64 p0), .d (.sl 58 p1), .d (.int .i64 p2), .d (.int .i64 p3), .mp 3 3 p4] = some { fr := sparse .undef 88 [(6, .mp 0), (7, .d (.int .i64 p0)), (19, .d (.sl 58 p1)), (20, .d (.int .i64 p2)), (21, .d (.int .i64 p3))], st := sparse none 8 [(0, some (.mp 3 3 p4))] } := by kernel_rfl
      rw [hS] at he
      obtain rfl := Option.some.inj he
      refine .inr (fun R K => ?_)
      rw [b_L9_7]
      unfold LS_L9_7
      rw [hd]
theorem z_L9_7 (g37 : TF37) (N : Nat) (R : Type) (S : St A) (K : Ex → St A → Option R) : LS_L9_7 g37 N 0 S K = none := by
  unfold LS_L9_7
  cases decSt sh_L9_7 S with
  | none => rfl
  | some ps =>
    simp only
    unfold LP_L9_7
    split <;> (try unfold L9_7) <;> rfl
noncomputable def cb_L9_15 : Code := sub [1, 1, 1, 1, 1, 1, 1, 0, 1, 0, 0] code_9
noncomputable def bd_L9_15 (g37 : TF37) (N : Nat) : Piece A := around (fun S _ K => aexec (E_F9_ g37 N) N cb_L9_15 S K) ((firstReg cb_L9_15).bind (E_F9_ g37 N).loopH) ((firstReg cb_L9_15).bind (E_F9_ g37 N).exitH)
theorem b_L9_15 (g37 : TF37) (N n : Nat) (p0 : Int) (p1 : Int) (p2 : List ((Int) × (Int))) (p3 : List (G_Row)) (p4 : List (Int)) (R : Type) (K : Ex → St A → Option R) : bd_L9_15 g37 N { fr := sparse .undef 88 [(6, .mp 0), (7, .d (.int .i64 p0)), (10, .own 54 2), (11, .own 3 3), (12, .d (.int .i64 p1))], st := sparse none 8 [(0, some (.mp 3 3 p2)), (2, some (.row 54 p3)), (3, some (.row 3 p4))] } (fun e S' => match e with | .normal => LS_L9_15 g37 N n S' K | e => K e S') = LP_L9_15 g37 N (n + 1) [.d (.int .i64 p0), .d (.int .i64 p1), .mp 3 3 p2, .d (.sl 54 p3), .d (.sl 3 p4)] K := by kernel_rfl
theorem m_L9_15 (g37 : TF37) (ps : List (Pv A)) : (∀ (N n : Nat) (R : Type) (K : Ex → St A → Option R), LP_L9_15 g37 N n ps K = none) ∨ ∃ (p0 : Int) (p1 : Int) (p2 : List ((Int) × (Int))) (p3 : List (G_Row)) (p4 : List (Int)), ps = [.d (.int .i64 p0), .d (.int .i64 p1), .mp 3 3 p2, .d (.sl 54 p3), .d (.sl 3 p4)] := by
  by_cases h : ∃ (p0 : Int) (p1 : Int) (p2 : List ((Int) × (Int))) (p3 : List (G_Row)) (p4 : List (Int)), ps = [.d (.int .i64 p0), .d (.int .i64 p1), .mp 3 3 p2, .d (.sl 54 p3), .d (.sl 3 p4)]
  · exact .inr h
  · refine .inl (fun N n R K => ?_)
    unfold LP_L9_15
    split
    · exact absurd ⟨_, _, _, _, _, rfl⟩ h
    · rfl
theorem s_L9_15 (g37 : TF37) (N n : Nat) (S : St A) : (∀ (R : Type) (K : Ex → St A → Option R), LS_L9_15 g37 N (n + 1) S K = none) ∨ ∀ (R : Type) (K : Ex → St A → Option R), LS_L9_15 g37 N (n + 1) S K = bd_L9_15 g37 N S (fun e S' => match e with | .normal => LS_L9_15 g37 N n S' K | e => K e S') := by
  cases hd : decSt sh_L9_15 S with
  | none => exact .inl (fun R K => by unfold LS_L9_15; rw [hd])
  | some ps =>
    have he := decSt_enc hd
    rcases m_L9_15 g37 ps with h | ⟨p0, p1, p2, p3, p4, rfl⟩
    · exact .inl (fun R K => by unfold LS_L9_15; rw [hd]; exact h N (n + 1) R K)
    · have hS : encSt (A := A) sh_L9_15 [.d (.int .i64 p0), .d (.int .i64 p1), .mp 3 3 p2, .d (.sl 54 p3), .d (.sl 3 p4)] = some { fr := sparse .undef 88 [(6, .mp 0), (7, .d (.int .i64 p0)), (10, .own 54 2), (11, .own 3 3), (12, .d (.int .i64 p1))], st := sparse none 8 [(0, some (.mp 3 3 p2)), (2, some (.row 54 p3)), (3, some (.row 3 p4))] } := by kernel_rfl
      rw [hS] at he
      obtain rfl := Option.some.inj he
      refine .inr (fun R K => ?_)
      rw [b_L9_15]
      unfold LS_L9_15
      rw [hd]
theorem z_L9_15 (g37 : TF37) (N : Nat) (R : Type) (S : St A) (K : Ex → St A → Option R) : LS_L9_15 g37 N 0 S K = none := by
  unfold LS_L9_15
  cases decSt sh_L9_15 S with
  | none => rfl
  | some ps =>
    simp only
    unfold LP_L9_15
    split <;> (try unfold L9_15) <;> rfl
theorem en_9 : Enters Tryz.prog 9 := enters_of (fn := Tryz.f9) (by kernel_rfl) (by kernel_rfl) (by kernel_rfl)
theorem en_F9 : Enters Tryz.prog 9 := en_9
theorem tl_F9 (N : Nat) : TabL Tryz.prog T (C_F9 N) := (.cons (fs_F37 N) en_F37 .nil)
theorem nl_F9 (N : Nat) : NatL (C_F9 N) := (.cons (na_F37 N) .nil)
theorem ct_F9 (N : Nat) : NatTab (E_F9 N).C := tab_nat (l := C_F9 N) (nl_F9 N)
theorem eo_F9 (N : Nat) : EnvOk (E_F9 N) := ⟨tyOk Tryz.prog, tab_sound (l := C_F9 N) (tl_F9 N), flatOk, keysOk⟩
theorem ll_L9_7 : loopsOf cb_L9_7 = [] := by kernel_rfl
theorem fi_L9_7 (N : Nat) : FineL (E_F9 N) N [] := .nil
theorem cc_L9_7 (N : Nat) : CutsOk (E_F9 N) N cb_L9_7 := cuts_of (fun _ => rfl) cb_L9_7 (by rw [ll_L9_7]; exact fi_L9_7 N)
theorem cg_L9_7 (g37 : TF37) (N : Nat) : (firstReg cb_L9_7).bind (E_F9_ g37 N).cutL = some (LS_L9_7 g37 N N) := by kernel_rfl
theorem ce_L9_7 (N : Nat) : (firstReg cb_L9_7).bind (E_F9 N).cutL = some (LS_L9_7 (@F37 N) N N) := cg_L9_7 (@F37 N) N
theorem lf_L9_7 (N : Nat) : LoopFine (E_F9 N) N cb_L9_7 := fine_of (LS_L9_7 (@F37 N) N) (ce_L9_7 N) (ct_F9 N) (cc_L9_7 N) (z_L9_7 (@F37 N) N) (s_L9_7 (@F37 N) N)
theorem ll_L9_15 : loopsOf cb_L9_15 = [] := by kernel_rfl
theorem fi_L9_15 (N : Nat) : FineL (E_F9 N) N [] := .nil
theorem cc_L9_15 (N : Nat) : CutsOk (E_F9 N) N cb_L9_15 := cuts_of (fun _ => rfl) cb_L9_15 (by rw [ll_L9_15]; exact fi_L9_15 N)
theorem cg_L9_15 (g37 : TF37) (N : Nat) : (firstReg cb_L9_15).bind (E_F9_ g37 N).cutL = some (LS_L9_15 g37 N N) := by kernel_rfl
theorem ce_L9_15 (N : Nat) : (firstReg cb_L9_15).bind (E_F9 N).cutL = some (LS_L9_15 (@F37 N) N N) := cg_L9_15 (@F37 N) N
theorem lf_L9_15 (N : Nat) : LoopFine (E_F9 N) N cb_L9_15 := fine_of (LS_L9_15 (@F37 N) N) (ce_L9_15 N) (ct_F9 N) (cc_L9_15 N) (z_L9_15 (@F37 N) N) (s_L9_15 (@F37 N) N)
theorem ll_F9 : loopsOf code_9 = [cb_L9_7, cb_L9_15] := by kernel_rfl
theorem fi_F9 (N : Nat) : FineL (E_F9 N) N [cb_L9_7, cb_L9_15] := (.cons (lf_L9_7 N) (.cons (lf_L9_15 N) .nil))
theorem cc_F9 (N : Nat) : CutsOk (E_F9 N) N code_9 := cuts_of (fun _ => rfl) code_9 (by rw [ll_F9]; exact fi_F9 N)
theorem v_F9 (args : List (IV A)) : (∀ (N : Nat) (R : Type) (k : IV A → List (IV A) → Option R), S_F9 N args k = none) ∨ ∃ (a1 : List (G_Contact)), args = [.d (.sl 58 a1)] := by
  by_cases h : ∃ (a1 : List (G_Contact)), args = [.d (.sl 58 a1)]
  · exact .inr h
  · refine .inl (fun N R k => ?_)
    unfold S_F9 SS_F9
    split
    · exact absurd ⟨_, rfl⟩ h
    · rfl
theorem sm_F9 (N : Nat) : Same (S_F9 N) (abody (E_F9 N) Tryz.f9 code_9 8 [] [.arr 54, .arr 3, .asis] N) := by
  intro args
  rcases v_F9 args with h | ⟨a1, rfl⟩
  · exact .inl (h N)
  · exact .inr (fun R k => (t_F9 N a1 R k).symm)
theorem fu_9 : Tryz.prog.funcs[9]? = some Tryz.f9 := by kernel_rfl
theorem bo_9 : Tryz.f9.body = some code_9 := by kernel_rfl
theorem fs_F9 (N : Nat) : FnSound Tryz.prog T 9 (S_F9 N) := fs_of (E_F9 N) rfl rfl (eo_F9 N) (ct_F9 N) mixed fu_9 bo_9 8 [] [.arr 54, .arr 3, .asis] N (cc_F9 N) (sm_F9 N)
theorem na_F9 (N : Nat) : NatSpec (S_F9 N) := na_of (E_F9 N) (ct_F9 N) Tryz.f9 code_9 8 [] [.arr 54, .arr 3, .asis] N (cc_F9 N) (sm_F9 N)
abbrev TF29 : Type 1 := List (G_Contact) → {R : Type} → (List (G_Contact) → Option R) → Option R
def F29 (N : Nat) : TF29 := @X_clone (G_Contact) 96
def SS_F29 (g : TF29) : Spec A := fun args _ k => match args with | [.d (.sl 58 x1)] => g x1 (fun z => k (.arr 58 z) [.undef]) | _ => none
def S_F29 (N : Nat) : Spec A := SS_F29 (F29 N)
theorem h1_F29 (N : Nat) (xs : List (A 58)) (R : Type) (k : IV A → List (IV A) → Option R) : S_F29 N [.d (.sl 58 xs)] k = X_clone 96 xs (fun z => k (.arr 58 z) [.undef]) := by kernel_rfl
theorem h2_F29 (N : Nat) (args : List (IV A)) (R : Type) (k : IV A → List (IV A) → Option R) (h : ∀ xs : List (A 58), args ≠ [.d (.sl 58 xs)]) : S_F29 N args k = none := by
  unfold S_F29 SS_F29
  split
  · exact absurd rfl (h _)
  · rfl
def p_F29 (args : List (IV A)) : Bool := match args with | [.d (.sl 58 _)] => true | _ => false
theorem na_F29 (N : Nat) : NatSpec (S_F29 N) := clone_na (h1_F29 N) (h2_F29 N)
theorem fs_F29 (N : Nat) : FnSound Tryz.prog T 29 (S_F29 N) := clone_fs (clone_sound (tyOk Tryz.prog) (e := 58) (size := 8) (bytes := 96) (ty := 58) (by kernel_rfl) (fun n c w => AnyE.slices_Clone_nil Tryz.clone29 n c w) (fun b off n c news w h1 h2 h3 h4 h5 => AnyE.slices_Clone Tryz.clone29 Tryz.ti58 Tryz.zv58 8 96 (by kernel_rfl) (by kernel_rfl) (by kernel_rfl) (by kernel_rfl) (by kernel_rfl) (by decide) Tryz.sizeOf58 b off n c news w h1 h2 h3 h4 h5)) (h1_F29 N) (h2_F29 N)
theorem en_F29 : Enters Tryz.prog 29 := enters_of (fn := Tryz.f29) (by kernel_rfl) (by kernel_rfl) (by kernel_rfl)
def L10_8 (g29 : TF29) (g37 : TF37) (g42 : TF42) : Nat → Nat → Int → Int → Int → List (G_Contact) → {R : Type} → (List (G_Contact) → Option R) → Option R
  | _, 0, _, _, _, _, _, _ => none
  | N, n + 1, v6, v7, v8, v9, _, e0 => (bif (decide (v8 < v7)) then (bif (decide (0 ≤ v8) && decide (v8 < (v9.length : Int))) then (match v9[(v8 : Int).toNat]? with | some x11 => L10_8 g29 g37 g42 N n v6 v7 ((IntKind.i64.wrap (v8 + 1))) ((v9.set (v8 : Int).toNat (⟨x11.f_At, x11.f_Mode, x11.f_Band, x11.f_Call, (IntKind.i64.wrap (v6 + v8)), x11.f_Heard, x11.f_Gave, x11.f_Got⟩ : G_Contact))) e0 | none => none) else none) else e0 v9)
abbrev TF10 : Type 1 := List (G_Contact) → Int → {R : Type} → (List (G_Contact) → Int → Option R) → Option R
def F10_ (g29 : TF29) (g37 : TF37) (g42 : TF42) (N : Nat) (a1 : List (G_Contact)) (a2 : Int) {R : Type} (k0 : List (G_Contact) → Int → Option R) : Option R :=
  (g37 a1 (fun r3 => (bif (r3 != 0) then k0 [] r3 else (g42 a2 1 99999 (fun r4 => (bif r4 then k0 [] 1 else (bif (decide ((IntKind.i64.wrap ((IntKind.i64.wrap (a2 + (a1.length : Int))) - 1)) > 99999)) then k0 [] 1 else (g29 a1 (fun r5 => (L10_8 g29 g37 g42 N N a2 (r5.length : Int) 0 r5 (fun e12 => k0 e12 0)))))))))))
def F10 (N : Nat) : TF10 := @F10_ (@F29 N) (@F37 N) (@F42 N) N
def p_F10 (args : List (IV A)) : Bool := match args with | [.d (.sl 58 _), .d (.int .i64 _)] => true | _ => false
def SS_F10 (g : TF10) : Spec A := fun args _ k => match args with | [.d (.sl 58 a1), .d (.int .i64 a2)] => g a1 a2 (fun z0 z1 => k (.tup [.arr 58 z0, .d (.int .i64 z1)]) [.undef, .undef]) | _ => none
def S_F10 (N : Nat) : Spec A := SS_F10 (F10 N)
def sh_L10_8 : SSt := { fr := sparse .undef 40 [(1, .int .i64), (7, .own 58 0), (27, .int .i64), (28, .int .i64)], st := sparse .none 1 [(0, .row 58)] }
def LP_L10_8 (g29 : TF29) (g37 : TF37) (g42 : TF42) (N n : Nat) (ps : List (Pv A)) {R : Type} (K : Ex → St A → Option R) : Option R := match ps with | [.d (.int .i64 p0), .d (.int .i64 p1), .d (.int .i64 p2), .d (.sl 58 p3)] => L10_8 g29 g37 g42 N n p0 p1 p2 p3 (fun z0 => K (.exit 0) { fr := sparse .undef 40 [(7, .own 58 0)], st := sparse none 1 [(0, some (.row 58 z0))] }) | _ => none
def LS_L10_8 (g29 : TF29) (g37 : TF37) (g42 : TF42) (N n : Nat) : Piece A := fun S _ K => match decSt sh_L10_8 S with | some ps => LP_L10_8 g29 g37 g42 N n ps K | none => none
noncomputable def code_10 : Code := (Tryz.f10.body).getD .skip
def C_F10_ (g29 : TF29) (g37 : TF37) (g42 : TF42) : List (Nat × Spec A) := [(29, SS_F29 g29), (37, SS_F37 g37), (42, SS_F42 g42)]
def C_F10 (N : Nat) : List (Nat × Spec A) := C_F10_ (@F29 N) (@F37 N) (@F42 N)
noncomputable def E_F10_ (g29 : TF29) (g37 : TF37) (g42 : TF42) (N : Nat) : Env A := { P := Tryz.prog, T := T, C := fun f => (C_F10_ g29 g37 g42).lookup f, tg := fun d => ([(25, [0])].lookup d).getD [], seqH := fun _ => none, loopH := fun i => [(8, ({ keep := [1, 7, 27, 28], canon := [], stay := [0] } : Hint))].lookup i, exitH := fun i => [(8, ({ keep := [7], canon := [], stay := [0] } : Hint))].lookup i, cutL := fun i => [(8, LS_L10_8 g29 g37 g42 N N)].lookup i, mode := fun f i => [].contains (f, i), keyed := keyT, flat := flatT, pin := [] }
noncomputable def E_F10 (N : Nat) : Env A := E_F10_ (@F29 N) (@F37 N) (@F42 N) N
theorem tg_F10 (g29 : TF29) (g37 : TF37) (g42 : TF42) (N : Nat) (a1 : List (G_Contact)) (a2 : Int) (R : Type) (k : IV A → List (IV A) → Option R) : abody (E_F10_ g29 g37 g42 N) Tryz.f10 code_10 1 [] [.arr 58, .asis] N [.d (.sl 58 a1), .d (.int .i64 a2)] k = SS_F10 (@F10_ g29 g37 g42 N) [.d (.sl 58 a1), .d (.int .i64 a2)] k := by kernel_rfl
theorem t_F10 (N : Nat) (a1 : List (G_Contact)) (a2 : Int) (R : Type) (k : IV A → List (IV A) → Option R) : abody (E_F10 N) Tryz.f10 code_10 1 [] [.arr 58, .asis] N [.d (.sl 58 a1), .d (.int .i64 a2)] k = S_F10 N [.d (.sl 58 a1), .d (.int .i64 a2)] k := tg_F10 (@F29 N) (@F37 N) (@F42 N) N a1 a2 R k
noncomputable def cb_L10_8 : Code := sub [1, 1, 1, 1, 0, 1, 0, 0] code_10
noncomputable def bd_L10_8 (g29 : TF29) (g37 : TF37) (g42 : TF42) (N : Nat) : Piece A := around (fun S _ K => aexec (E_F10_ g29 g37 g42 N) N cb_L10_8 S K) ((firstReg cb_L10_8).bind (E_F10_ g29 g37 g42 N).loopH) ((firstReg cb_L10_8).bind (E_F10_ g29 g37 g42 N).exitH)
theorem b_L10_8 (g29 : TF29) (g37 : TF37) (g42 : TF42) (N n : Nat) (p0 : Int) (p1 : Int) (p2 : Int) (p3 : List (G_Contact)) (R : Type) (K : Ex → St A → Option R) : bd_L10_8 g29 g37 g42 N { fr := sparse .undef 40 [(1, .d (.int .i64 p0)), (7, .own 58 0), (27, .d (.int .i64 p1)), (28, .d (.int .i64 p2))], st := sparse none 1 [(0, some (.row 58 p3))] } (fun e S' => match e with | .normal => LS_L10_8 g29 g37 g42 N n S' K | e => K e S') = LP_L10_8 g29 g37 g42 N (n + 1) [.d (.int .i64 p0), .d (.int .i64 p1), .d (.int .i64 p2), .d (.sl 58 p3)] K := by kernel_rfl
theorem m_L10_8 (g29 : TF29) (g37 : TF37) (g42 : TF42) (ps : List (Pv A)) : (∀ (N n : Nat) (R : Type) (K : Ex → St A → Option R), LP_L10_8 g29 g37 g42 N n ps K = none) ∨ ∃ (p0 : Int) (p1 : Int) (p2 : Int) (p3 : List (G_Contact)), ps = [.d (.int .i64 p0), .d (.int .i64 p1), .d (.int .i64 p2), .d (.sl 58 p3)] := by
  by_cases h : ∃ (p0 : Int) (p1 : Int) (p2 : Int) (p3 : List (G_Contact)), ps = [.d (.int .i64 p0), .d (.int .i64 p1), .d (.int .i64 p2), .d (.sl 58 p3)]
  · exact .inr h
  · refine .inl (fun N n R K => ?_)
    unfold LP_L10_8
    split
    · exact absurd ⟨_, _, _, _, rfl⟩ h
    · rfl
theorem s_L10_8 (g29 : TF29) (g37 : TF37) (g42 : TF42) (N n : Nat) (S : St A) : (∀ (R : Type) (K : Ex → St A → Option R), LS_L10_8 g29 g37 g42 N (n + 1) S K = none) ∨ ∀ (R : Type) (K : Ex → St A → Option R), LS_L10_8 g29 g37 g42 N (n + 1) S K = bd_L10_8 g29 g37 g42 N S (fun e S' => match e with | .normal => LS_L10_8 g29 g37 g42 N n S' K | e => K e S') := by
  cases hd : decSt sh_L10_8 S with
  | none => exact .inl (fun R K => by unfold LS_L10_8; rw [hd])
  | some ps =>
    have he := decSt_enc hd
    rcases m_L10_8 g29 g37 g42 ps with h | ⟨p0, p1, p2, p3, rfl⟩
    · exact .inl (fun R K => by unfold LS_L10_8; rw [hd]; exact h N (n + 1) R K)
    · have hS : encSt (A := A) sh_L10_8 [.d (.int .i64 p0), .d (.int .i64 p1), .d (.int .i64 p2), .d (.sl 58 p3)] = some { fr := sparse .undef 40 [(1, .d (.int .i64 p0)), (7, .own 58 0), (27, .d (.int .i64 p1)), (28, .d (.int .i64 p2))], st := sparse none 1 [(0, some (.row 58 p3))] } := by kernel_rfl
      rw [hS] at he
      obtain rfl := Option.some.inj he
      refine .inr (fun R K => ?_)
      rw [b_L10_8]
      unfold LS_L10_8
      rw [hd]
theorem z_L10_8 (g29 : TF29) (g37 : TF37) (g42 : TF42) (N : Nat) (R : Type) (S : St A) (K : Ex → St A → Option R) : LS_L10_8 g29 g37 g42 N 0 S K = none := by
  unfold LS_L10_8
  cases decSt sh_L10_8 S with
  | none => rfl
  | some ps =>
    simp only
    unfold LP_L10_8
    split <;> (try unfold L10_8) <;> rfl
theorem en_10 : Enters Tryz.prog 10 := enters_of (fn := Tryz.f10) (by kernel_rfl) (by kernel_rfl) (by kernel_rfl)
theorem en_F10 : Enters Tryz.prog 10 := en_10
theorem tl_F10 (N : Nat) : TabL Tryz.prog T (C_F10 N) := (.cons (fs_F29 N) en_F29 (.cons (fs_F37 N) en_F37 (.cons (fs_F42 N) en_F42 .nil)))
theorem nl_F10 (N : Nat) : NatL (C_F10 N) := (.cons (na_F29 N) (.cons (na_F37 N) (.cons (na_F42 N) .nil)))
theorem ct_F10 (N : Nat) : NatTab (E_F10 N).C := tab_nat (l := C_F10 N) (nl_F10 N)
theorem eo_F10 (N : Nat) : EnvOk (E_F10 N) := ⟨tyOk Tryz.prog, tab_sound (l := C_F10 N) (tl_F10 N), flatOk, keysOk⟩
theorem ll_L10_8 : loopsOf cb_L10_8 = [] := by kernel_rfl
theorem fi_L10_8 (N : Nat) : FineL (E_F10 N) N [] := .nil
theorem cc_L10_8 (N : Nat) : CutsOk (E_F10 N) N cb_L10_8 := cuts_of (fun _ => rfl) cb_L10_8 (by rw [ll_L10_8]; exact fi_L10_8 N)
theorem cg_L10_8 (g29 : TF29) (g37 : TF37) (g42 : TF42) (N : Nat) : (firstReg cb_L10_8).bind (E_F10_ g29 g37 g42 N).cutL = some (LS_L10_8 g29 g37 g42 N N) := by kernel_rfl
theorem ce_L10_8 (N : Nat) : (firstReg cb_L10_8).bind (E_F10 N).cutL = some (LS_L10_8 (@F29 N) (@F37 N) (@F42 N) N N) := cg_L10_8 (@F29 N) (@F37 N) (@F42 N) N
theorem lf_L10_8 (N : Nat) : LoopFine (E_F10 N) N cb_L10_8 := fine_of (LS_L10_8 (@F29 N) (@F37 N) (@F42 N) N) (ce_L10_8 N) (ct_F10 N) (cc_L10_8 N) (z_L10_8 (@F29 N) (@F37 N) (@F42 N) N) (s_L10_8 (@F29 N) (@F37 N) (@F42 N) N)
theorem ll_F10 : loopsOf code_10 = [cb_L10_8] := by kernel_rfl
theorem fi_F10 (N : Nat) : FineL (E_F10 N) N [cb_L10_8] := (.cons (lf_L10_8 N) .nil)
theorem cc_F10 (N : Nat) : CutsOk (E_F10 N) N code_10 := cuts_of (fun _ => rfl) code_10 (by rw [ll_F10]; exact fi_F10 N)
theorem v_F10 (args : List (IV A)) : (∀ (N : Nat) (R : Type) (k : IV A → List (IV A) → Option R), S_F10 N args k = none) ∨ ∃ (a1 : List (G_Contact)) (a2 : Int), args = [.d (.sl 58 a1), .d (.int .i64 a2)] := by
  by_cases h : ∃ (a1 : List (G_Contact)) (a2 : Int), args = [.d (.sl 58 a1), .d (.int .i64 a2)]
  · exact .inr h
  · refine .inl (fun N R k => ?_)
    unfold S_F10 SS_F10
    split
    · exact absurd ⟨_, _, rfl⟩ h
    · rfl
theorem sm_F10 (N : Nat) : Same (S_F10 N) (abody (E_F10 N) Tryz.f10 code_10 1 [] [.arr 58, .asis] N) := by
  intro args
  rcases v_F10 args with h | ⟨a1, a2, rfl⟩
  · exact .inl (h N)
  · exact .inr (fun R k => (t_F10 N a1 a2 R k).symm)
theorem fu_10 : Tryz.prog.funcs[10]? = some Tryz.f10 := by kernel_rfl
theorem bo_10 : Tryz.f10.body = some code_10 := by kernel_rfl
theorem fs_F10 (N : Nat) : FnSound Tryz.prog T 10 (S_F10 N) := fs_of (E_F10 N) rfl rfl (eo_F10 N) (ct_F10 N) mixed fu_10 bo_10 1 [] [.arr 58, .asis] N (cc_F10 N) (sm_F10 N)
theorem na_F10 (N : Nat) : NatSpec (S_F10 N) := na_of (E_F10 N) (ct_F10 N) Tryz.f10 code_10 1 [] [.arr 58, .asis] N (cc_F10 N) (sm_F10 N)
abbrev TF75 : Type 1 := List UInt8 → {R : Type} → (List UInt8 → Option R) → Option R
def F75_ (g84 : TF84) (N : Nat) (a1 : List UInt8) {R : Type} (k0 : List UInt8 → Option R) : Option R :=
  (g84 a1 (fun r2 r3 r4 r5 r6 r7 => k0 r2))
def F75 (N : Nat) : TF75 := @F75_ (@F84 N) N
def p_F75 (args : List (IV A)) : Bool := match args with | [.d (.str _)] => true | _ => false
def SS_F75 (g : TF75) : Spec A := fun args _ k => match args with | [.d (.str a1)] => g a1 (fun z0 => k (.d (.str z0)) [.undef]) | _ => none
def S_F75 (N : Nat) : Spec A := SS_F75 (F75 N)
noncomputable def code_75 : Code := (Tryz.f75.body).getD .skip
def C_F75_ (g84 : TF84) : List (Nat × Spec A) := [(84, SS_F84 g84)]
def C_F75 (N : Nat) : List (Nat × Spec A) := C_F75_ (@F84 N)
noncomputable def E_F75_ (g84 : TF84) (N : Nat) : Env A := { P := Tryz.prog, T := T, C := fun f => (C_F75_ g84).lookup f, tg := fun d => ([(3, [0])].lookup d).getD [], seqH := fun _ => none, loopH := fun i => [].lookup i, exitH := fun i => [].lookup i, cutL := fun _ => none, mode := fun f i => [].contains (f, i), keyed := keyT, flat := flatT, pin := [] }
noncomputable def E_F75 (N : Nat) : Env A := E_F75_ (@F84 N) N
theorem tg_F75 (g84 : TF84) (N : Nat) (a1 : List UInt8) (R : Type) (k : IV A → List (IV A) → Option R) : abody (E_F75_ g84 N) Tryz.f75 code_75 1 [] [.asis] N [.d (.str a1)] k = SS_F75 (@F75_ g84 N) [.d (.str a1)] k := by kernel_rfl
theorem t_F75 (N : Nat) (a1 : List UInt8) (R : Type) (k : IV A → List (IV A) → Option R) : abody (E_F75 N) Tryz.f75 code_75 1 [] [.asis] N [.d (.str a1)] k = S_F75 N [.d (.str a1)] k := tg_F75 (@F84 N) N a1 R k
theorem en_75 : Enters Tryz.prog 75 := enters_of (fn := Tryz.f75) (by kernel_rfl) (by kernel_rfl) (by kernel_rfl)
theorem en_F75 : Enters Tryz.prog 75 := en_75
theorem tl_F75 (N : Nat) : TabL Tryz.prog T (C_F75 N) := (.cons (fs_F84 N) en_F84 .nil)
theorem nl_F75 (N : Nat) : NatL (C_F75 N) := (.cons (na_F84 N) .nil)
theorem ct_F75 (N : Nat) : NatTab (E_F75 N).C := tab_nat (l := C_F75 N) (nl_F75 N)
theorem eo_F75 (N : Nat) : EnvOk (E_F75 N) := ⟨tyOk Tryz.prog, tab_sound (l := C_F75 N) (tl_F75 N), flatOk, keysOk⟩
theorem ll_F75 : loopsOf code_75 = [] := by kernel_rfl
theorem fi_F75 (N : Nat) : FineL (E_F75 N) N [] := .nil
theorem cc_F75 (N : Nat) : CutsOk (E_F75 N) N code_75 := cuts_of (fun _ => rfl) code_75 (by rw [ll_F75]; exact fi_F75 N)
theorem v_F75 (args : List (IV A)) : (∀ (N : Nat) (R : Type) (k : IV A → List (IV A) → Option R), S_F75 N args k = none) ∨ ∃ (a1 : List UInt8), args = [.d (.str a1)] := by
  by_cases h : ∃ (a1 : List UInt8), args = [.d (.str a1)]
  · exact .inr h
  · refine .inl (fun N R k => ?_)
    unfold S_F75 SS_F75
    split
    · exact absurd ⟨_, rfl⟩ h
    · rfl
theorem sm_F75 (N : Nat) : Same (S_F75 N) (abody (E_F75 N) Tryz.f75 code_75 1 [] [.asis] N) := by
  intro args
  rcases v_F75 args with h | ⟨a1, rfl⟩
  · exact .inl (h N)
  · exact .inr (fun R k => (t_F75 N a1 R k).symm)
theorem fu_75 : Tryz.prog.funcs[75]? = some Tryz.f75 := by kernel_rfl
theorem bo_75 : Tryz.f75.body = some code_75 := by kernel_rfl
theorem fs_F75 (N : Nat) : FnSound Tryz.prog T 75 (S_F75 N) := fs_of (E_F75 N) rfl rfl (eo_F75 N) (ct_F75 N) mixed fu_75 bo_75 1 [] [.asis] N (cc_F75 N) (sm_F75 N)
theorem na_F75 (N : Nat) : NatSpec (S_F75 N) := na_of (E_F75 N) (ct_F75 N) Tryz.f75 code_75 1 [] [.asis] N (cc_F75 N) (sm_F75 N)
def L43_4 (g75 : TF75) : Nat → Nat → List (G_Contact) → Int → Int → List ((G_worked) × (Bool)) → List (Int) → {R : Type} → (List (Int) → Option R) → Option R
  | _, 0, _, _, _, _, _, _, _ => none
  | N, n + 1, v2, v3, v4, v5, v6, _, e0 => (bif (decide (v4 < v3)) then (bif (decide (0 ≤ v4)) then (match v2[(v4 : Int).toNat]? with | some x9 => (g75 x9.f_Call (fun r10 => (bif ((mget_92_4 (⟨r10, x9.f_Band, x9.f_Mode⟩ : G_worked) v5).getD false) then (bif (decide ((v6.length + [v4].length) * 8 ≤ roomBytes')) then L43_4 g75 N n v2 v3 ((IntKind.i64.wrap (v4 + 1))) ((mset_92_4 (⟨r10, x9.f_Band, x9.f_Mode⟩ : G_worked) true v5)) (v6 ++ [v4]) e0 else none) else L43_4 g75 N n v2 v3 ((IntKind.i64.wrap (v4 + 1))) ((mset_92_4 (⟨r10, x9.f_Band, x9.f_Mode⟩ : G_worked) true v5)) v6 e0))) | none => none) else none) else e0 v6)
abbrev TF43 : Type 1 := List (G_Contact) → {R : Type} → (List (Int) → Option R) → Option R
def F43_ (g75 : TF75) (N : Nat) (a1 : List (G_Contact)) {R : Type} (k0 : List (Int) → Option R) : Option R :=
  (L43_4 g75 N N a1 (a1.length : Int) 0 [] [] (fun e11 => k0 e11))
def F43 (N : Nat) : TF43 := @F43_ (@F75 N) N
def p_F43 (args : List (IV A)) : Bool := match args with | [.d (.sl 58 _)] => true | _ => false
def SS_F43 (g : TF43) : Spec A := fun args _ k => match args with | [.d (.sl 58 a1)] => g a1 (fun z0 => k (.arr 3 z0) [.undef]) | _ => none
def S_F43 (N : Nat) : Spec A := SS_F43 (F43 N)
def sh_L43_4 : SSt := { fr := sparse .undef 35 [(3, .mp 0), (4, .own 3 1), (9, .sl 58), (10, .int .i64), (11, .int .i64)], st := sparse .none 6 [(0, .mp 92 4), (1, .row 3)] }
def LP_L43_4 (g75 : TF75) (N n : Nat) (ps : List (Pv A)) {R : Type} (K : Ex → St A → Option R) : Option R := match ps with | [.d (.sl 58 p0), .d (.int .i64 p1), .d (.int .i64 p2), .mp 92 4 p3, .d (.sl 3 p4)] => L43_4 g75 N n p0 p1 p2 p3 p4 (fun z0 => K (.exit 0) { fr := sparse .undef 35 [(4, .own 3 1)], st := sparse none 6 [(1, some (.row 3 z0))] }) | _ => none
def LS_L43_4 (g75 : TF75) (N n : Nat) : Piece A := fun S _ K => match decSt sh_L43_4 S with | some ps => LP_L43_4 g75 N n ps K | none => none
noncomputable def code_43 : Code := (Tryz.f43.body).getD .skip
def C_F43_ (g75 : TF75) : List (Nat × Spec A) := [(75, SS_F75 g75)]
def C_F43 (N : Nat) : List (Nat × Spec A) := C_F43_ (@F75 N)
noncomputable def E_F43_ (g75 : TF75) (N : Nat) : Env A := { P := Tryz.prog, T := T, C := fun f => (C_F43_ g75).lookup f, tg := fun d => ([(6, [2]), (7, [3]), (8, [0]), (29, [4]), (30, [5])].lookup d).getD [], seqH := fun _ => none, loopH := fun i => [(4, ({ keep := [3, 4, 9, 10, 11], canon := [(4, 3, 1)], stay := [0] } : Hint))].lookup i, exitH := fun i => [(4, ({ keep := [4], canon := [], stay := [1] } : Hint))].lookup i, cutL := fun i => [(4, LS_L43_4 g75 N N)].lookup i, mode := fun f i => [].contains (f, i), keyed := keyT, flat := flatT, pin := [] }
noncomputable def E_F43 (N : Nat) : Env A := E_F43_ (@F75 N) N
theorem tg_F43 (g75 : TF75) (N : Nat) (a1 : List (G_Contact)) (R : Type) (k : IV A → List (IV A) → Option R) : abody (E_F43_ g75 N) Tryz.f43 code_43 6 [] [.arr 3] N [.d (.sl 58 a1)] k = SS_F43 (@F43_ g75 N) [.d (.sl 58 a1)] k := by kernel_rfl
theorem t_F43 (N : Nat) (a1 : List (G_Contact)) (R : Type) (k : IV A → List (IV A) → Option R) : abody (E_F43 N) Tryz.f43 code_43 6 [] [.arr 3] N [.d (.sl 58 a1)] k = S_F43 N [.d (.sl 58 a1)] k := tg_F43 (@F75 N) N a1 R k
noncomputable def cb_L43_4 : Code := sub [1, 1, 1, 0, 1, 0, 0] code_43
noncomputable def bd_L43_4 (g75 : TF75) (N : Nat) : Piece A := around (fun S _ K => aexec (E_F43_ g75 N) N cb_L43_4 S K) ((firstReg cb_L43_4).bind (E_F43_ g75 N).loopH) ((firstReg cb_L43_4).bind (E_F43_ g75 N).exitH)
theorem b_L43_4 (g75 : TF75) (N n : Nat) (p0 : List (G_Contact)) (p1 : Int) (p2 : Int) (p3 : List ((G_worked) × (Bool))) (p4 : List (Int)) (R : Type) (K : Ex → St A → Option R) : bd_L43_4 g75 N { fr := sparse .undef 35 [(3, .mp 0), (4, .own 3 1), (9, .d (.sl 58 p0)), (10, .d (.int .i64 p1)), (11, .d (.int .i64 p2))], st := sparse none 6 [(0, some (.mp 92 4 p3)), (1, some (.row 3 p4))] } (fun e S' => match e with | .normal => LS_L43_4 g75 N n S' K | e => K e S') = LP_L43_4 g75 N (n + 1) [.d (.sl 58 p0), .d (.int .i64 p1), .d (.int .i64 p2), .mp 92 4 p3, .d (.sl 3 p4)] K := by kernel_rfl
theorem m_L43_4 (g75 : TF75) (ps : List (Pv A)) : (∀ (N n : Nat) (R : Type) (K : Ex → St A → Option R), LP_L43_4 g75 N n ps K = none) ∨ ∃ (p0 : List (G_Contact)) (p1 : Int) (p2 : Int) (p3 : List ((G_worked) × (Bool))) (p4 : List (Int)), ps = [.d (.sl 58 p0), .d (.int .i64 p1), .d (.int .i64 p2), .mp 92 4 p3, .d (.sl 3 p4)] := by
  by_cases h : ∃ (p0 : List (G_Contact)) (p1 : Int) (p2 : Int) (p3 : List ((G_worked) × (Bool))) (p4 : List (Int)), ps = [.d (.sl 58 p0), .d (.int .i64 p1), .d (.int .i64 p2), .mp 92 4 p3, .d (.sl 3 p4)]
  · exact .inr h
  · refine .inl (fun N n R K => ?_)
    unfold LP_L43_4
    split
    · exact absurd ⟨_, _, _, _, _, rfl⟩ h
    · rfl
theorem s_L43_4 (g75 : TF75) (N n : Nat) (S : St A) : (∀ (R : Type) (K : Ex → St A → Option R), LS_L43_4 g75 N (n + 1) S K = none) ∨ ∀ (R : Type) (K : Ex → St A → Option R), LS_L43_4 g75 N (n + 1) S K = bd_L43_4 g75 N S (fun e S' => match e with | .normal => LS_L43_4 g75 N n S' K | e => K e S') := by
  cases hd : decSt sh_L43_4 S with
  | none => exact .inl (fun R K => by unfold LS_L43_4; rw [hd])
  | some ps =>
    have he := decSt_enc hd
    rcases m_L43_4 g75 ps with h | ⟨p0, p1, p2, p3, p4, rfl⟩
    · exact .inl (fun R K => by unfold LS_L43_4; rw [hd]; exact h N (n + 1) R K)
    · have hS : encSt (A := A) sh_L43_4 [.d (.sl 58 p0), .d (.int .i64 p1), .d (.int .i64 p2), .mp 92 4 p3, .d (.sl 3 p4)] = some { fr := sparse .undef 35 [(3, .mp 0), (4, .own 3 1), (9, .d (.sl 58 p0)), (10, .d (.int .i64 p1)), (11, .d (.int .i64 p2))], st := sparse none 6 [(0, some (.mp 92 4 p3)), (1, some (.row 3 p4))] } := by kernel_rfl
      rw [hS] at he
      obtain rfl := Option.some.inj he
      refine .inr (fun R K => ?_)
      rw [b_L43_4]
      unfold LS_L43_4
      rw [hd]
theorem z_L43_4 (g75 : TF75) (N : Nat) (R : Type) (S : St A) (K : Ex → St A → Option R) : LS_L43_4 g75 N 0 S K = none := by
  unfold LS_L43_4
  cases decSt sh_L43_4 S with
  | none => rfl
  | some ps =>
    simp only
    unfold LP_L43_4
    split <;> (try unfold L43_4) <;> rfl
theorem en_43 : Enters Tryz.prog 43 := enters_of (fn := Tryz.f43) (by kernel_rfl) (by kernel_rfl) (by kernel_rfl)
theorem en_F43 : Enters Tryz.prog 43 := en_43
theorem tl_F43 (N : Nat) : TabL Tryz.prog T (C_F43 N) := (.cons (fs_F75 N) en_F75 .nil)
theorem nl_F43 (N : Nat) : NatL (C_F43 N) := (.cons (na_F75 N) .nil)
theorem ct_F43 (N : Nat) : NatTab (E_F43 N).C := tab_nat (l := C_F43 N) (nl_F43 N)
theorem eo_F43 (N : Nat) : EnvOk (E_F43 N) := ⟨tyOk Tryz.prog, tab_sound (l := C_F43 N) (tl_F43 N), flatOk, keysOk⟩
theorem ll_L43_4 : loopsOf cb_L43_4 = [] := by kernel_rfl
theorem fi_L43_4 (N : Nat) : FineL (E_F43 N) N [] := .nil
theorem cc_L43_4 (N : Nat) : CutsOk (E_F43 N) N cb_L43_4 := cuts_of (fun _ => rfl) cb_L43_4 (by rw [ll_L43_4]; exact fi_L43_4 N)
theorem cg_L43_4 (g75 : TF75) (N : Nat) : (firstReg cb_L43_4).bind (E_F43_ g75 N).cutL = some (LS_L43_4 g75 N N) := by kernel_rfl
theorem ce_L43_4 (N : Nat) : (firstReg cb_L43_4).bind (E_F43 N).cutL = some (LS_L43_4 (@F75 N) N N) := cg_L43_4 (@F75 N) N
theorem lf_L43_4 (N : Nat) : LoopFine (E_F43 N) N cb_L43_4 := fine_of (LS_L43_4 (@F75 N) N) (ce_L43_4 N) (ct_F43 N) (cc_L43_4 N) (z_L43_4 (@F75 N) N) (s_L43_4 (@F75 N) N)
theorem ll_F43 : loopsOf code_43 = [cb_L43_4] := by kernel_rfl
theorem fi_F43 (N : Nat) : FineL (E_F43 N) N [cb_L43_4] := (.cons (lf_L43_4 N) .nil)
theorem cc_F43 (N : Nat) : CutsOk (E_F43 N) N code_43 := cuts_of (fun _ => rfl) code_43 (by rw [ll_F43]; exact fi_F43 N)
theorem v_F43 (args : List (IV A)) : (∀ (N : Nat) (R : Type) (k : IV A → List (IV A) → Option R), S_F43 N args k = none) ∨ ∃ (a1 : List (G_Contact)), args = [.d (.sl 58 a1)] := by
  by_cases h : ∃ (a1 : List (G_Contact)), args = [.d (.sl 58 a1)]
  · exact .inr h
  · refine .inl (fun N R k => ?_)
    unfold S_F43 SS_F43
    split
    · exact absurd ⟨_, rfl⟩ h
    · rfl
theorem sm_F43 (N : Nat) : Same (S_F43 N) (abody (E_F43 N) Tryz.f43 code_43 6 [] [.arr 3] N) := by
  intro args
  rcases v_F43 args with h | ⟨a1, rfl⟩
  · exact .inl (h N)
  · exact .inr (fun R k => (t_F43 N a1 R k).symm)
theorem fu_43 : Tryz.prog.funcs[43]? = some Tryz.f43 := by kernel_rfl
theorem bo_43 : Tryz.f43.body = some code_43 := by kernel_rfl
theorem fs_F43 (N : Nat) : FnSound Tryz.prog T 43 (S_F43 N) := fs_of (E_F43 N) rfl rfl (eo_F43 N) (ct_F43 N) mixed fu_43 bo_43 6 [] [.arr 3] N (cc_F43 N) (sm_F43 N)
theorem na_F43 (N : Nat) : NatSpec (S_F43 N) := na_of (E_F43 N) (ct_F43 N) Tryz.f43 code_43 6 [] [.arr 3] N (cc_F43 N) (sm_F43 N)
abbrev TF11 : Type 1 := List (G_Contact) → {R : Type} → (List (Int) → Int → Option R) → Option R
def F11_ (g37 : TF37) (g43 : TF43) (N : Nat) (a1 : List (G_Contact)) {R : Type} (k0 : List (Int) → Int → Option R) : Option R :=
  (g37 a1 (fun r2 => (bif (r2 != 0) then k0 [] r2 else (g43 a1 (fun r3 => k0 r3 0)))))
def F11 (N : Nat) : TF11 := @F11_ (@F37 N) (@F43 N) N
def p_F11 (args : List (IV A)) : Bool := match args with | [.d (.sl 58 _)] => true | _ => false
def SS_F11 (g : TF11) : Spec A := fun args _ k => match args with | [.d (.sl 58 a1)] => g a1 (fun z0 z1 => k (.tup [.arr 3 z0, .d (.int .i64 z1)]) [.undef]) | _ => none
def S_F11 (N : Nat) : Spec A := SS_F11 (F11 N)
noncomputable def code_11 : Code := (Tryz.f11.body).getD .skip
def C_F11_ (g37 : TF37) (g43 : TF43) : List (Nat × Spec A) := [(37, SS_F37 g37), (43, SS_F43 g43)]
def C_F11 (N : Nat) : List (Nat × Spec A) := C_F11_ (@F37 N) (@F43 N)
noncomputable def E_F11_ (g37 : TF37) (g43 : TF43) (N : Nat) : Env A := { P := Tryz.prog, T := T, C := fun f => (C_F11_ g37 g43).lookup f, tg := fun d => ([(11, [0])].lookup d).getD [], seqH := fun _ => none, loopH := fun i => [].lookup i, exitH := fun i => [].lookup i, cutL := fun _ => none, mode := fun f i => [].contains (f, i), keyed := keyT, flat := flatT, pin := [] }
noncomputable def E_F11 (N : Nat) : Env A := E_F11_ (@F37 N) (@F43 N) N
theorem tg_F11 (g37 : TF37) (g43 : TF43) (N : Nat) (a1 : List (G_Contact)) (R : Type) (k : IV A → List (IV A) → Option R) : abody (E_F11_ g37 g43 N) Tryz.f11 code_11 1 [] [.arr 3, .asis] N [.d (.sl 58 a1)] k = SS_F11 (@F11_ g37 g43 N) [.d (.sl 58 a1)] k := by kernel_rfl
theorem t_F11 (N : Nat) (a1 : List (G_Contact)) (R : Type) (k : IV A → List (IV A) → Option R) : abody (E_F11 N) Tryz.f11 code_11 1 [] [.arr 3, .asis] N [.d (.sl 58 a1)] k = S_F11 N [.d (.sl 58 a1)] k := tg_F11 (@F37 N) (@F43 N) N a1 R k
theorem en_11 : Enters Tryz.prog 11 := enters_of (fn := Tryz.f11) (by kernel_rfl) (by kernel_rfl) (by kernel_rfl)
theorem en_F11 : Enters Tryz.prog 11 := en_11
theorem tl_F11 (N : Nat) : TabL Tryz.prog T (C_F11 N) := (.cons (fs_F37 N) en_F37 (.cons (fs_F43 N) en_F43 .nil))
theorem nl_F11 (N : Nat) : NatL (C_F11 N) := (.cons (na_F37 N) (.cons (na_F43 N) .nil))
theorem ct_F11 (N : Nat) : NatTab (E_F11 N).C := tab_nat (l := C_F11 N) (nl_F11 N)
theorem eo_F11 (N : Nat) : EnvOk (E_F11 N) := ⟨tyOk Tryz.prog, tab_sound (l := C_F11 N) (tl_F11 N), flatOk, keysOk⟩
theorem ll_F11 : loopsOf code_11 = [] := by kernel_rfl
theorem fi_F11 (N : Nat) : FineL (E_F11 N) N [] := .nil
theorem cc_F11 (N : Nat) : CutsOk (E_F11 N) N code_11 := cuts_of (fun _ => rfl) code_11 (by rw [ll_F11]; exact fi_F11 N)
theorem v_F11 (args : List (IV A)) : (∀ (N : Nat) (R : Type) (k : IV A → List (IV A) → Option R), S_F11 N args k = none) ∨ ∃ (a1 : List (G_Contact)), args = [.d (.sl 58 a1)] := by
  by_cases h : ∃ (a1 : List (G_Contact)), args = [.d (.sl 58 a1)]
  · exact .inr h
  · refine .inl (fun N R k => ?_)
    unfold S_F11 SS_F11
    split
    · exact absurd ⟨_, rfl⟩ h
    · rfl
theorem sm_F11 (N : Nat) : Same (S_F11 N) (abody (E_F11 N) Tryz.f11 code_11 1 [] [.arr 3, .asis] N) := by
  intro args
  rcases v_F11 args with h | ⟨a1, rfl⟩
  · exact .inl (h N)
  · exact .inr (fun R k => (t_F11 N a1 R k).symm)
theorem fu_11 : Tryz.prog.funcs[11]? = some Tryz.f11 := by kernel_rfl
theorem bo_11 : Tryz.f11.body = some code_11 := by kernel_rfl
theorem fs_F11 (N : Nat) : FnSound Tryz.prog T 11 (S_F11 N) := fs_of (E_F11 N) rfl rfl (eo_F11 N) (ct_F11 N) mixed fu_11 bo_11 1 [] [.arr 3, .asis] N (cc_F11 N) (sm_F11 N)
theorem na_F11 (N : Nat) : NatSpec (S_F11 N) := na_of (E_F11 N) (ct_F11 N) Tryz.f11 code_11 1 [] [.arr 3, .asis] N (cc_F11 N) (sm_F11 N)
end Go.Am
