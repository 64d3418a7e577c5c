/- The functions of the program as Lean functions, each shown to be what the code computes, part 4. No condition: lemmas for the claim. -/
import Derived.Test.YthfphbbhjodbcaaGreatDoorF0
import Derived.Test.YthfphbbhjodbcaaGreatDoorFSh
import Derived.Test.YthfphbbhjodbcaaGreatDoorF3
set_option linter.unusedVariables false
set_option maxRecDepth 100000
namespace Go.Am
open Go Go.Proofs
def L120_2 (g121 : TF121) (g129 : TF129) : Nat → Nat → List UInt8 → Int → Int → Int → {R : Type} → (Int → Bool → Option R) → (Int → Option R) → Option R
  | _, 0, _, _, _, _, _, _, _ => none
  | N, n + 1, v2, v3, v4, v5, _, e0, e1 => (bif (decide (v5 < v4)) then (bif (decide (0 ≤ v5)) then (match v2[(v5 : Int).toNat]? with | some x10 => (g129 (x10.toNat : Int) (fun r11 => (bif r11 then L120_2 g121 g129 N n v2 ((IntKind.i64.wrap (v3 + 1))) v4 ((IntKind.i64.wrap (v5 + 1))) e0 e1 else (bif (decide (0 ≤ v5)) then (match v2[(v5 : Int).toNat]? with | some x12 => (g121 (x12.toNat : Int) (fun r13 => (bif (!r13) then e0 0 false else L120_2 g121 g129 N n v2 v3 v4 ((IntKind.i64.wrap (v5 + 1))) e0 e1))) | none => none) else none)))) | none => none) else none) else e1 v3)
abbrev TF120 : Type 1 := List UInt8 → {R : Type} → (Int → Bool → Option R) → Option R
def F120_ (g121 : TF121) (g129 : TF129) (N : Nat) (a1 : List UInt8) {R : Type} (k0 : Int → Bool → Option R) : Option R :=
  (L120_2 g121 g129 N N a1 0 (a1.length : Int) 0 (fun e14 e15 => k0 e14 e15) (fun e16 => k0 e16 true))
def F120 (N : Nat) : TF120 := @F120_ (@F121 N) (@F129 N) N
def p_F120 (args : List (IV A)) : Bool := match args with | [.d (.str _)] => true | _ => false
def SS_F120 (g : TF120) : Spec A := fun args _ k => match args with | [.d (.str a1)] => g a1 (fun z0 z1 => k (.tup [.d (.int .i64 z0), .d (.bool z1)]) [.undef]) | _ => none
def S_F120 (N : Nat) : Spec A := SS_F120 (F120 N)
def sh_L120_2 : SSt := { fr := sparse .undef 25 [(0, .str), (2, .int .i64), (6, .int .i64), (7, .int .i64)], st := sparse .none 0 [] }
def LP_L120_2 (g121 : TF121) (g129 : TF129) (N n : Nat) (ps : List (Pv A)) {R : Type} (K : Ex → St A → Option R) : Option R := match ps with | [.d (.str p0), .d (.int .i64 p1), .d (.int .i64 p2), .d (.int .i64 p3)] => L120_2 g121 g129 N n p0 p1 p2 p3 (fun z0 z1 => K .ret { fr := sparse .undef 25 [(2, .d (.int .i64 z0)), (3, .d (.bool z1))], st := sparse none 0 [] }) (fun z0 => K (.exit 0) { fr := sparse .undef 25 [(2, .d (.int .i64 z0))], st := sparse none 0 [] }) | _ => none
def LS_L120_2 (g121 : TF121) (g129 : TF129) (N n : Nat) : Piece A := fun S _ K => match decSt sh_L120_2 S with | some ps => LP_L120_2 g121 g129 N n ps K | none => none
noncomputable def code_120 : Code := (Tryz.f120.body).getD .skip
def C_F120_ (g121 : TF121) (g129 : TF129) : List (Nat × Spec A) := [(121, SS_F121 g121), (129, SS_F129 g129)]
def C_F120 (N : Nat) : List (Nat × Spec A) := C_F120_ (@F121 N) (@F129 N)
noncomputable def E_F120_ (g121 : TF121) (g129 : TF129) (N : Nat) : Env A := { P := Tryz.prog, T := T, C := fun f => (C_F120_ g121 g129).lookup f, tg := fun d => ([].lookup d).getD [], seqH := fun _ => none, loopH := fun i => [(2, ({ keep := [0, 2, 6, 7], canon := [], stay := [] } : Hint))].lookup i, exitH := fun i => [(2, ({ keep := [2, 3], canon := [], stay := [] } : Hint))].lookup i, cutL := fun i => [(2, LS_L120_2 g121 g129 N N)].lookup i, mode := fun f i => [].contains (f, i), keyed := keyT, flat := flatT, pin := [] }
noncomputable def E_F120 (N : Nat) : Env A := E_F120_ (@F121 N) (@F129 N) N
theorem tg_F120 (g121 : TF121) (g129 : TF129) (N : Nat) (a1 : List UInt8) (R : Type) (k : IV A → List (IV A) → Option R) : abody (E_F120_ g121 g129 N) Tryz.f120 code_120 0 [] [.asis, .asis] N [.d (.str a1)] k = SS_F120 (@F120_ g121 g129 N) [.d (.str a1)] k := by kernel_rfl
theorem t_F120 (N : Nat) (a1 : List UInt8) (R : Type) (k : IV A → List (IV A) → Option R) : abody (E_F120 N) Tryz.f120 code_120 0 [] [.asis, .asis] N [.d (.str a1)] k = S_F120 N [.d (.str a1)] k := tg_F120 (@F121 N) (@F129 N) N a1 R k
noncomputable def cb_L120_2 : Code := sub [1, 0, 1, 0, 0] code_120
noncomputable def bd_L120_2 (g121 : TF121) (g129 : TF129) (N : Nat) : Piece A := around (fun S _ K => aexec (E_F120_ g121 g129 N) N cb_L120_2 S K) ((firstReg cb_L120_2).bind (E_F120_ g121 g129 N).loopH) ((firstReg cb_L120_2).bind (E_F120_ g121 g129 N).exitH)
theorem b_L120_2 (g121 : TF121) (g129 : TF129) (N n : Nat) (p0 : List UInt8) (p1 : Int) (p2 : Int) (p3 : Int) (R : Type) (K : Ex → St A → Option R) : bd_L120_2 g121 g129 N { fr := sparse .undef 25 [(0, .d (.str p0)), (2, .d (.int .i64 p1)), (6, .d (.int .i64 p2)), (7, .d (.int .i64 p3))], st := sparse none 0 [] } (fun e S' => match e with | .normal => LS_L120_2 g121 g129 N n S' K | e => K e S') = LP_L120_2 g121 g129 N (n + 1) [.d (.str p0), .d (.int .i64 p1), .d (.int .i64 p2), .d (.int .i64 p3)] K := by kernel_rfl
theorem m_L120_2 (g121 : TF121) (g129 : TF129) (ps : List (Pv A)) : (∀ (N n : Nat) (R : Type) (K : Ex → St A → Option R), LP_L120_2 g121 g129 N n ps K = none) ∨ ∃ (p0 : List UInt8) (p1 : Int) (p2 : Int) (p3 : Int), ps = [.d (.str p0), .d (.int .i64 p1), .d (.int .i64 p2), .d (.int .i64 p3)] := by
  by_cases h : ∃ (p0 : List UInt8) (p1 : Int) (p2 : Int) (p3 : Int), ps = [.d (.str p0), .d (.int .i64 p1), .d (.int .i64 p2), .d (.int .i64 p3)]
  · exact .inr h
  · refine .inl (fun N n R K => ?_)
    unfold LP_L120_2
    split
    · exact absurd ⟨_, _, _, _, rfl⟩ h
    · rfl
theorem s_L120_2 (g121 : TF121) (g129 : TF129) (N n : Nat) (S : St A) : (∀ (R : Type) (K : Ex → St A → Option R), LS_L120_2 g121 g129 N (n + 1) S K = none) ∨ ∀ (R : Type) (K : Ex → St A → Option R), LS_L120_2 g121 g129 N (n + 1) S K = bd_L120_2 g121 g129 N S (fun e S' => match e with | .normal => LS_L120_2 g121 g129 N n S' K | e => K e S') := by
  cases hd : decSt sh_L120_2 S with
  | none => exact .inl (fun R K => by unfold LS_L120_2; rw [hd])
  | some ps =>
    have he := decSt_enc hd
    rcases m_L120_2 g121 g129 ps with h | ⟨p0, p1, p2, p3, rfl⟩
    · exact .inl (fun R K => by unfold LS_L120_2; rw [hd]; exact h N (n + 1) R K)
    · have hS : encSt (A := A) sh_L120_2 [.d (.str p0), .d (.int .i64 p1), .d (.int .i64 p2), .d (.int .i64 p3)] = some { fr := sparse .undef 25 [(0, .d (.str p0)), (2, .d (.int .i64 p1)), (6, .d (.int .i64 p2)), (7, .d (.int .i64 p3))], st := sparse none 0 [] } := by kernel_rfl
      rw [hS] at he
      obtain rfl := Option.some.inj he
      refine .inr (fun R K => ?_)
      rw [b_L120_2]
      unfold LS_L120_2
      rw [hd]
theorem z_L120_2 (g121 : TF121) (g129 : TF129) (N : Nat) (R : Type) (S : St A) (K : Ex → St A → Option R) : LS_L120_2 g121 g129 N 0 S K = none := by
  unfold LS_L120_2
  cases decSt sh_L120_2 S with
  | none => rfl
  | some ps =>
    simp only
    unfold LP_L120_2
    split <;> (try unfold L120_2) <;> rfl
theorem en_120 : Enters Tryz.prog 120 := enters_of (fn := Tryz.f120) (by kernel_rfl) (by kernel_rfl) (by kernel_rfl)
theorem en_F120 : Enters Tryz.prog 120 := en_120
theorem tl_F120 (N : Nat) : TabL Tryz.prog T (C_F120 N) := (.cons (fs_F121 N) en_F121 (.cons (fs_F129 N) en_F129 .nil))
theorem nl_F120 (N : Nat) : NatL (C_F120 N) := (.cons (na_F121 N) (.cons (na_F129 N) .nil))
theorem ct_F120 (N : Nat) : NatTab (E_F120 N).C := tab_nat (l := C_F120 N) (nl_F120 N)
theorem eo_F120 (N : Nat) : EnvOk (E_F120 N) := ⟨tyOk Tryz.prog, tab_sound (l := C_F120 N) (tl_F120 N), flatOk, keysOk⟩
theorem ll_L120_2 : loopsOf cb_L120_2 = [] := by kernel_rfl
theorem fi_L120_2 (N : Nat) : FineL (E_F120 N) N [] := .nil
theorem cc_L120_2 (N : Nat) : CutsOk (E_F120 N) N cb_L120_2 := cuts_of (fun _ => rfl) cb_L120_2 (by rw [ll_L120_2]; exact fi_L120_2 N)
theorem cg_L120_2 (g121 : TF121) (g129 : TF129) (N : Nat) : (firstReg cb_L120_2).bind (E_F120_ g121 g129 N).cutL = some (LS_L120_2 g121 g129 N N) := by kernel_rfl
theorem ce_L120_2 (N : Nat) : (firstReg cb_L120_2).bind (E_F120 N).cutL = some (LS_L120_2 (@F121 N) (@F129 N) N N) := cg_L120_2 (@F121 N) (@F129 N) N
theorem lf_L120_2 (N : Nat) : LoopFine (E_F120 N) N cb_L120_2 := fine_of (LS_L120_2 (@F121 N) (@F129 N) N) (ce_L120_2 N) (ct_F120 N) (cc_L120_2 N) (z_L120_2 (@F121 N) (@F129 N) N) (s_L120_2 (@F121 N) (@F129 N) N)
theorem ll_F120 : loopsOf code_120 = [cb_L120_2] := by kernel_rfl
theorem fi_F120 (N : Nat) : FineL (E_F120 N) N [cb_L120_2] := (.cons (lf_L120_2 N) .nil)
theorem cc_F120 (N : Nat) : CutsOk (E_F120 N) N code_120 := cuts_of (fun _ => rfl) code_120 (by rw [ll_F120]; exact fi_F120 N)
theorem v_F120 (args : List (IV A)) : (∀ (N : Nat) (R : Type) (k : IV A → List (IV A) → Option R), S_F120 N args k = none) ∨ ∃ (a1 : List UInt8), args = [.d (.str a1)] := by
  by_cases h : ∃ (a1 : List UInt8), args = [.d (.str a1)]
  · exact .inr h
  · refine .inl (fun N R k => ?_)
    unfold S_F120 SS_F120
    split
    · exact absurd ⟨_, rfl⟩ h
    · rfl
theorem sm_F120 (N : Nat) : Same (S_F120 N) (abody (E_F120 N) Tryz.f120 code_120 0 [] [.asis, .asis] N) := by
  intro args
  rcases v_F120 args with h | ⟨a1, rfl⟩
  · exact .inl (h N)
  · exact .inr (fun R k => (t_F120 N a1 R k).symm)
theorem fu_120 : Tryz.prog.funcs[120]? = some Tryz.f120 := by kernel_rfl
theorem bo_120 : Tryz.f120.body = some code_120 := by kernel_rfl
theorem fs_F120 (N : Nat) : FnSound Tryz.prog T 120 (S_F120 N) := fs_of (E_F120 N) rfl rfl (eo_F120 N) (ct_F120 N) mixed fu_120 bo_120 0 [] [.asis, .asis] N (cc_F120 N) (sm_F120 N)
theorem na_F120 (N : Nat) : NatSpec (S_F120 N) := na_of (E_F120 N) (ct_F120 N) Tryz.f120 code_120 0 [] [.asis, .asis] N (cc_F120 N) (sm_F120 N)
abbrev TF124 : Type 1 := List UInt8 → Int → {R : Type} → (Int → Option R) → Option R
def F124 (N : Nat) : TF124 := @X_ixr
def SS_F124 (g : TF124) : Spec A := SSX_ixr g
def S_F124 (N : Nat) : Spec A := SS_F124 (F124 N)
def p_F124 (args : List (IV A)) : Bool := match args with | [.d (.str _), .d (.int .i32 _)] => true | _ => false
theorem na_F124 (N : Nat) : NatSpec (S_F124 N) := ssx_ixr_nat
theorem fs_F124 (N : Nat) : FnSound Tryz.prog T 124 (S_F124 N) := ssx_ixr_sound (ixr_sound (fun s r w h0 h1 => Any.strings_IndexRune_ascii Tryz.lays152 s r w h0 h1))
theorem en_F124 : Enters Tryz.prog 124 := enters_of (fn := Tryz.f124) (by kernel_rfl) (by kernel_rfl) (by kernel_rfl)
abbrev TF125 : Type 1 := Int → {R : Type} → (Bool → Option R) → Option R
def F125_ (N : Nat) (a1 : Int) {R : Type} (k0 : Bool → Option R) : Option R :=
  k0 ((decide (a1 > 8)))
def F125 (N : Nat) : TF125 := @F125_ N
def p_F125 (args : List (IV A)) : Bool := match args with | [.d (.int .i64 _)] => true | _ => false
def SS_F125 (g : TF125) : Spec A := fun args _ k => match args with | [.d (.int .i64 a1)] => g a1 (fun z0 => k (.d (.bool z0)) [.undef]) | _ => none
def S_F125 (N : Nat) : Spec A := SS_F125 (F125 N)
noncomputable def code_125 : Code := (Tryz.f125.body).getD .skip
def C_F125_ : List (Nat × Spec A) := []
def C_F125 (N : Nat) : List (Nat × Spec A) := C_F125_
noncomputable def E_F125_ (N : Nat) : Env A := { P := Tryz.prog, T := T, C := fun f => (C_F125_).lookup f, tg := fun d => ([].lookup d).getD [], seqH := fun _ => none, loopH := fun i => [].lookup i, exitH := fun i => [].lookup i, cutL := fun _ => none, mode := fun f i => [].contains (f, i), keyed := keyT, flat := flatT, pin := [] }
noncomputable def E_F125 (N : Nat) : Env A := E_F125_ N
theorem tg_F125 (N : Nat) (a1 : Int) (R : Type) (k : IV A → List (IV A) → Option R) : abody (E_F125_ N) Tryz.f125 code_125 0 [] [.asis] N [.d (.int .i64 a1)] k = SS_F125 (@F125_ N) [.d (.int .i64 a1)] k := by kernel_rfl
theorem t_F125 (N : Nat) (a1 : Int) (R : Type) (k : IV A → List (IV A) → Option R) : abody (E_F125 N) Tryz.f125 code_125 0 [] [.asis] N [.d (.int .i64 a1)] k = S_F125 N [.d (.int .i64 a1)] k := tg_F125 N a1 R k
theorem en_125 : Enters Tryz.prog 125 := enters_of (fn := Tryz.f125) (by kernel_rfl) (by kernel_rfl) (by kernel_rfl)
theorem en_F125 : Enters Tryz.prog 125 := en_125
theorem tl_F125 (N : Nat) : TabL Tryz.prog T (C_F125 N) := .nil
theorem nl_F125 (N : Nat) : NatL (C_F125 N) := .nil
theorem ct_F125 (N : Nat) : NatTab (E_F125 N).C := tab_nat (l := C_F125 N) (nl_F125 N)
theorem eo_F125 (N : Nat) : EnvOk (E_F125 N) := ⟨tyOk Tryz.prog, tab_sound (l := C_F125 N) (tl_F125 N), flatOk, keysOk⟩
theorem ll_F125 : loopsOf code_125 = [] := by kernel_rfl
theorem fi_F125 (N : Nat) : FineL (E_F125 N) N [] := .nil
theorem cc_F125 (N : Nat) : CutsOk (E_F125 N) N code_125 := cuts_of (fun _ => rfl) code_125 (by rw [ll_F125]; exact fi_F125 N)
theorem v_F125 (args : List (IV A)) : (∀ (N : Nat) (R : Type) (k : IV A → List (IV A) → Option R), S_F125 N args k = none) ∨ ∃ (a1 : Int), args = [.d (.int .i64 a1)] := by
  by_cases h : ∃ (a1 : Int), args = [.d (.int .i64 a1)]
  · exact .inr h
  · refine .inl (fun N R k => ?_)
    unfold S_F125 SS_F125
    split
    · exact absurd ⟨_, rfl⟩ h
    · rfl
theorem sm_F125 (N : Nat) : Same (S_F125 N) (abody (E_F125 N) Tryz.f125 code_125 0 [] [.asis] N) := by
  intro args
  rcases v_F125 args with h | ⟨a1, rfl⟩
  · exact .inl (h N)
  · exact .inr (fun R k => (t_F125 N a1 R k).symm)
theorem fu_125 : Tryz.prog.funcs[125]? = some Tryz.f125 := by kernel_rfl
theorem bo_125 : Tryz.f125.body = some code_125 := by kernel_rfl
theorem fs_F125 (N : Nat) : FnSound Tryz.prog T 125 (S_F125 N) := fs_of (E_F125 N) rfl rfl (eo_F125 N) (ct_F125 N) mixed fu_125 bo_125 0 [] [.asis] N (cc_F125 N) (sm_F125 N)
theorem na_F125 (N : Nat) : NatSpec (S_F125 N) := na_of (E_F125 N) (ct_F125 N) Tryz.f125 code_125 0 [] [.asis] N (cc_F125 N) (sm_F125 N)
abbrev TF98 : Type 1 := List UInt8 → {R : Type} → Option R
def F98_ (N : Nat) (a1 : List UInt8) {R : Type}  : Option R :=
  none
def F98 (N : Nat) : TF98 := @F98_ N
def p_F98 (args : List (IV A)) : Bool := match args with | [.d (.str _)] => true | _ => false
def SS_F98 (g : TF98) : Spec A := fun args _ k => match args with | [.d (.str a1)] => g a1 | _ => none
def S_F98 (N : Nat) : Spec A := SS_F98 (F98 N)
noncomputable def code_98 : Code := (Tryz.f98.body).getD .skip
def C_F98_ : List (Nat × Spec A) := []
def C_F98 (N : Nat) : List (Nat × Spec A) := C_F98_
noncomputable def E_F98_ (N : Nat) : Env A := { P := Tryz.prog, T := T, C := fun f => (C_F98_).lookup f, tg := fun d => ([].lookup d).getD [], seqH := fun _ => none, loopH := fun i => [].lookup i, exitH := fun i => [].lookup i, cutL := fun _ => none, mode := fun f i => [].contains (f, i), keyed := keyT, flat := flatT, pin := [] }
noncomputable def E_F98 (N : Nat) : Env A := E_F98_ N
theorem tg_F98 (N : Nat) (a1 : List UInt8) (R : Type) (k : IV A → List (IV A) → Option R) : abody (E_F98_ N) Tryz.f98 code_98 0 [] [.asis, .asis] N [.d (.str a1)] k = SS_F98 (@F98_ N) [.d (.str a1)] k := by kernel_rfl
theorem t_F98 (N : Nat) (a1 : List UInt8) (R : Type) (k : IV A → List (IV A) → Option R) : abody (E_F98 N) Tryz.f98 code_98 0 [] [.asis, .asis] N [.d (.str a1)] k = S_F98 N [.d (.str a1)] k := tg_F98 N a1 R k
theorem en_98 : Enters Tryz.prog 98 := enters_of (fn := Tryz.f98) (by kernel_rfl) (by kernel_rfl) (by kernel_rfl)
theorem en_F98 : Enters Tryz.prog 98 := en_98
theorem tl_F98 (N : Nat) : TabL Tryz.prog T (C_F98 N) := .nil
theorem nl_F98 (N : Nat) : NatL (C_F98 N) := .nil
theorem ct_F98 (N : Nat) : NatTab (E_F98 N).C := tab_nat (l := C_F98 N) (nl_F98 N)
theorem eo_F98 (N : Nat) : EnvOk (E_F98 N) := ⟨tyOk Tryz.prog, tab_sound (l := C_F98 N) (tl_F98 N), flatOk, keysOk⟩
noncomputable def cb_L98_2 : Code := sub [1, 0, 1, 0, 0] code_98
theorem ce_L98_2 (N : Nat) : (firstReg cb_L98_2).bind (E_F98 N).cutL = none := by kernel_rfl
theorem lf_L98_2 (N : Nat) : LoopFine (E_F98 N) N cb_L98_2 := fun f hf => by rw [ce_L98_2] at hf; cases hf
theorem ll_F98 : loopsOf code_98 = [cb_L98_2] := by kernel_rfl
theorem fi_F98 (N : Nat) : FineL (E_F98 N) N [cb_L98_2] := (.cons (lf_L98_2 N) .nil)
theorem cc_F98 (N : Nat) : CutsOk (E_F98 N) N code_98 := cuts_of (fun _ => rfl) code_98 (by rw [ll_F98]; exact fi_F98 N)
theorem v_F98 (args : List (IV A)) : (∀ (N : Nat) (R : Type) (k : IV A → List (IV A) → Option R), S_F98 N args k = none) ∨ ∃ (a1 : List UInt8), args = [.d (.str a1)] := by
  by_cases h : ∃ (a1 : List UInt8), args = [.d (.str a1)]
  · exact .inr h
  · refine .inl (fun N R k => ?_)
    unfold S_F98 SS_F98
    split
    · exact absurd ⟨_, rfl⟩ h
    · rfl
theorem sm_F98 (N : Nat) : Same (S_F98 N) (abody (E_F98 N) Tryz.f98 code_98 0 [] [.asis, .asis] N) := by
  intro args
  rcases v_F98 args with h | ⟨a1, rfl⟩
  · exact .inl (h N)
  · exact .inr (fun R k => (t_F98 N a1 R k).symm)
theorem fu_98 : Tryz.prog.funcs[98]? = some Tryz.f98 := by kernel_rfl
theorem bo_98 : Tryz.f98.body = some code_98 := by kernel_rfl
theorem fs_F98 (N : Nat) : FnSound Tryz.prog T 98 (S_F98 N) := fs_of (E_F98 N) rfl rfl (eo_F98 N) (ct_F98 N) mixed fu_98 bo_98 0 [] [.asis, .asis] N (cc_F98 N) (sm_F98 N)
theorem na_F98 (N : Nat) : NatSpec (S_F98 N) := na_of (E_F98 N) (ct_F98 N) Tryz.f98 code_98 0 [] [.asis, .asis] N (cc_F98 N) (sm_F98 N)
abbrev TF128 : Type 1 := Int → {R : Type} → Option R
def F128_ (N : Nat) (a1 : Int) {R : Type}  : Option R :=
  none
def F128 (N : Nat) : TF128 := @F128_ N
def p_F128 (args : List (IV A)) : Bool := match args with | [.d (.int .u8 _)] => true | _ => false
def SS_F128 (g : TF128) : Spec A := fun args _ k => match args with | [.d (.int .u8 a1)] => g a1 | _ => none
def S_F128 (N : Nat) : Spec A := SS_F128 (F128 N)
noncomputable def code_128 : Code := (Tryz.f128.body).getD .skip
def C_F128_ : List (Nat × Spec A) := []
def C_F128 (N : Nat) : List (Nat × Spec A) := C_F128_
noncomputable def E_F128_ (N : Nat) : Env A := { P := Tryz.prog, T := T, C := fun f => (C_F128_).lookup f, tg := fun d => ([].lookup d).getD [], seqH := fun _ => none, loopH := fun i => [].lookup i, exitH := fun i => [].lookup i, cutL := fun _ => none, mode := fun f i => [].contains (f, i), keyed := keyT, flat := flatT, pin := [] }
noncomputable def E_F128 (N : Nat) : Env A := E_F128_ N
theorem tg_F128 (N : Nat) (a1 : Int) (R : Type) (k : IV A → List (IV A) → Option R) : abody (E_F128_ N) Tryz.f128 code_128 0 [] [.asis] N [.d (.int .u8 a1)] k = SS_F128 (@F128_ N) [.d (.int .u8 a1)] k := by kernel_rfl
theorem t_F128 (N : Nat) (a1 : Int) (R : Type) (k : IV A → List (IV A) → Option R) : abody (E_F128 N) Tryz.f128 code_128 0 [] [.asis] N [.d (.int .u8 a1)] k = S_F128 N [.d (.int .u8 a1)] k := tg_F128 N a1 R k
theorem en_128 : Enters Tryz.prog 128 := enters_of (fn := Tryz.f128) (by kernel_rfl) (by kernel_rfl) (by kernel_rfl)
theorem en_F128 : Enters Tryz.prog 128 := en_128
theorem tl_F128 (N : Nat) : TabL Tryz.prog T (C_F128 N) := .nil
theorem nl_F128 (N : Nat) : NatL (C_F128 N) := .nil
theorem ct_F128 (N : Nat) : NatTab (E_F128 N).C := tab_nat (l := C_F128 N) (nl_F128 N)
theorem eo_F128 (N : Nat) : EnvOk (E_F128 N) := ⟨tyOk Tryz.prog, tab_sound (l := C_F128 N) (tl_F128 N), flatOk, keysOk⟩
theorem ll_F128 : loopsOf code_128 = [] := by kernel_rfl
theorem fi_F128 (N : Nat) : FineL (E_F128 N) N [] := .nil
theorem cc_F128 (N : Nat) : CutsOk (E_F128 N) N code_128 := cuts_of (fun _ => rfl) code_128 (by rw [ll_F128]; exact fi_F128 N)
theorem v_F128 (args : List (IV A)) : (∀ (N : Nat) (R : Type) (k : IV A → List (IV A) → Option R), S_F128 N args k = none) ∨ ∃ (a1 : Int), args = [.d (.int .u8 a1)] := by
  by_cases h : ∃ (a1 : Int), args = [.d (.int .u8 a1)]
  · exact .inr h
  · refine .inl (fun N R k => ?_)
    unfold S_F128 SS_F128
    split
    · exact absurd ⟨_, rfl⟩ h
    · rfl
theorem sm_F128 (N : Nat) : Same (S_F128 N) (abody (E_F128 N) Tryz.f128 code_128 0 [] [.asis] N) := by
  intro args
  rcases v_F128 args with h | ⟨a1, rfl⟩
  · exact .inl (h N)
  · exact .inr (fun R k => (t_F128 N a1 R k).symm)
theorem fu_128 : Tryz.prog.funcs[128]? = some Tryz.f128 := by kernel_rfl
theorem bo_128 : Tryz.f128.body = some code_128 := by kernel_rfl
theorem fs_F128 (N : Nat) : FnSound Tryz.prog T 128 (S_F128 N) := fs_of (E_F128 N) rfl rfl (eo_F128 N) (ct_F128 N) mixed fu_128 bo_128 0 [] [.asis] N (cc_F128 N) (sm_F128 N)
theorem na_F128 (N : Nat) : NatSpec (S_F128 N) := na_of (E_F128 N) (ct_F128 N) Tryz.f128 code_128 0 [] [.asis] N (cc_F128 N) (sm_F128 N)
abbrev TF127 : Type 1 := List UInt8 → {R : Type} → (Int → Int → Option R) → Option R
def F127_ (N : Nat) (a1 : List UInt8) {R : Type} (k0 : Int → Int → Option R) : Option R :=
  (bif (decide ((a1.length : Int) < 1)) then k0 65533 0 else (match a1[(0 : Int).toNat]? with | some x2 => none | none => none))
def F127 (N : Nat) : TF127 := @F127_ N
def p_F127 (args : List (IV A)) : Bool := match args with | [.d (.str _)] => true | _ => false
def SS_F127 (g : TF127) : Spec A := fun args _ k => match args with | [.d (.str a1)] => g a1 (fun z0 z1 => k (.tup [.d (.int .i32 z0), .d (.int .i64 z1)]) [.undef]) | _ => none
def S_F127 (N : Nat) : Spec A := SS_F127 (F127 N)
noncomputable def code_127 : Code := (Tryz.f127.body).getD .skip
def C_F127_ : List (Nat × Spec A) := []
def C_F127 (N : Nat) : List (Nat × Spec A) := C_F127_
noncomputable def E_F127_ (N : Nat) : Env A := { P := Tryz.prog, T := T, C := fun f => (C_F127_).lookup f, tg := fun d => ([].lookup d).getD [], seqH := fun _ => none, loopH := fun i => [].lookup i, exitH := fun i => [].lookup i, cutL := fun _ => none, mode := fun f i => [].contains (f, i), keyed := keyT, flat := flatT, pin := [] }
noncomputable def E_F127 (N : Nat) : Env A := E_F127_ N
theorem tg_F127 (N : Nat) (a1 : List UInt8) (R : Type) (k : IV A → List (IV A) → Option R) : abody (E_F127_ N) Tryz.f127 code_127 0 [] [.asis, .asis] N [.d (.str a1)] k = SS_F127 (@F127_ N) [.d (.str a1)] k := by kernel_rfl
theorem t_F127 (N : Nat) (a1 : List UInt8) (R : Type) (k : IV A → List (IV A) → Option R) : abody (E_F127 N) Tryz.f127 code_127 0 [] [.asis, .asis] N [.d (.str a1)] k = S_F127 N [.d (.str a1)] k := tg_F127 N a1 R k
theorem en_127 : Enters Tryz.prog 127 := enters_of (fn := Tryz.f127) (by kernel_rfl) (by kernel_rfl) (by kernel_rfl)
theorem en_F127 : Enters Tryz.prog 127 := en_127
theorem tl_F127 (N : Nat) : TabL Tryz.prog T (C_F127 N) := .nil
theorem nl_F127 (N : Nat) : NatL (C_F127 N) := .nil
theorem ct_F127 (N : Nat) : NatTab (E_F127 N).C := tab_nat (l := C_F127 N) (nl_F127 N)
theorem eo_F127 (N : Nat) : EnvOk (E_F127 N) := ⟨tyOk Tryz.prog, tab_sound (l := C_F127 N) (tl_F127 N), flatOk, keysOk⟩
theorem ll_F127 : loopsOf code_127 = [] := by kernel_rfl
theorem fi_F127 (N : Nat) : FineL (E_F127 N) N [] := .nil
theorem cc_F127 (N : Nat) : CutsOk (E_F127 N) N code_127 := cuts_of (fun _ => rfl) code_127 (by rw [ll_F127]; exact fi_F127 N)
theorem v_F127 (args : List (IV A)) : (∀ (N : Nat) (R : Type) (k : IV A → List (IV A) → Option R), S_F127 N args k = none) ∨ ∃ (a1 : List UInt8), args = [.d (.str a1)] := by
  by_cases h : ∃ (a1 : List UInt8), args = [.d (.str a1)]
  · exact .inr h
  · refine .inl (fun N R k => ?_)
    unfold S_F127 SS_F127
    split
    · exact absurd ⟨_, rfl⟩ h
    · rfl
theorem sm_F127 (N : Nat) : Same (S_F127 N) (abody (E_F127 N) Tryz.f127 code_127 0 [] [.asis, .asis] N) := by
  intro args
  rcases v_F127 args with h | ⟨a1, rfl⟩
  · exact .inl (h N)
  · exact .inr (fun R k => (t_F127 N a1 R k).symm)
theorem fu_127 : Tryz.prog.funcs[127]? = some Tryz.f127 := by kernel_rfl
theorem bo_127 : Tryz.f127.body = some code_127 := by kernel_rfl
theorem fs_F127 (N : Nat) : FnSound Tryz.prog T 127 (S_F127 N) := fs_of (E_F127 N) rfl rfl (eo_F127 N) (ct_F127 N) mixed fu_127 bo_127 0 [] [.asis, .asis] N (cc_F127 N) (sm_F127 N)
theorem na_F127 (N : Nat) : NatSpec (S_F127 N) := na_of (E_F127 N) (ct_F127 N) Tryz.f127 code_127 0 [] [.asis, .asis] N (cc_F127 N) (sm_F127 N)
abbrev TF116 : Type 1 := List UInt8 → {R : Type} → (Int → Int → Option R) → Option R
def F116_ (g127 : TF127) (N : Nat) (a1 : List UInt8) {R : Type} (k0 : Int → Int → Option R) : Option R :=
  (bif (!(a1 == [])) then (match a1[(0 : Int).toNat]? with | some x2 => (bif (decide ((x2.toNat : Int) < 128)) then (match a1[(0 : Int).toNat]? with | some x3 => k0 ((IntKind.i32.wrap (x3.toNat : Int))) 1 | none => none) else (g127 a1 (fun r4 r5 => k0 r4 r5))) | none => none) else (g127 a1 (fun r6 r7 => k0 r6 r7)))
def F116 (N : Nat) : TF116 := @F116_ (@F127 N) N
def p_F116 (args : List (IV A)) : Bool := match args with | [.d (.str _)] => true | _ => false
def SS_F116 (g : TF116) : Spec A := fun args _ k => match args with | [.d (.str a1)] => g a1 (fun z0 z1 => k (.tup [.d (.int .i32 z0), .d (.int .i64 z1)]) [.undef]) | _ => none
def S_F116 (N : Nat) : Spec A := SS_F116 (F116 N)
noncomputable def code_116 : Code := (Tryz.f116.body).getD .skip
def C_F116_ (g127 : TF127) : List (Nat × Spec A) := [(127, SS_F127 g127)]
def C_F116 (N : Nat) : List (Nat × Spec A) := C_F116_ (@F127 N)
noncomputable def E_F116_ (g127 : TF127) (N : Nat) : Env A := { P := Tryz.prog, T := T, C := fun f => (C_F116_ g127).lookup f, tg := fun d => ([].lookup d).getD [], seqH := fun _ => none, loopH := fun i => [].lookup i, exitH := fun i => [].lookup i, cutL := fun _ => none, mode := fun f i => [].contains (f, i), keyed := keyT, flat := flatT, pin := [] }
noncomputable def E_F116 (N : Nat) : Env A := E_F116_ (@F127 N) N
theorem tg_F116 (g127 : TF127) (N : Nat) (a1 : List UInt8) (R : Type) (k : IV A → List (IV A) → Option R) : abody (E_F116_ g127 N) Tryz.f116 code_116 0 [] [.asis, .asis] N [.d (.str a1)] k = SS_F116 (@F116_ g127 N) [.d (.str a1)] k := by kernel_rfl
theorem t_F116 (N : Nat) (a1 : List UInt8) (R : Type) (k : IV A → List (IV A) → Option R) : abody (E_F116 N) Tryz.f116 code_116 0 [] [.asis, .asis] N [.d (.str a1)] k = S_F116 N [.d (.str a1)] k := tg_F116 (@F127 N) N a1 R k
theorem en_116 : Enters Tryz.prog 116 := enters_of (fn := Tryz.f116) (by kernel_rfl) (by kernel_rfl) (by kernel_rfl)
theorem en_F116 : Enters Tryz.prog 116 := en_116
theorem tl_F116 (N : Nat) : TabL Tryz.prog T (C_F116 N) := (.cons (fs_F127 N) en_F127 .nil)
theorem nl_F116 (N : Nat) : NatL (C_F116 N) := (.cons (na_F127 N) .nil)
theorem ct_F116 (N : Nat) : NatTab (E_F116 N).C := tab_nat (l := C_F116 N) (nl_F116 N)
theorem eo_F116 (N : Nat) : EnvOk (E_F116 N) := ⟨tyOk Tryz.prog, tab_sound (l := C_F116 N) (tl_F116 N), flatOk, keysOk⟩
theorem ll_F116 : loopsOf code_116 = [] := by kernel_rfl
theorem fi_F116 (N : Nat) : FineL (E_F116 N) N [] := .nil
theorem cc_F116 (N : Nat) : CutsOk (E_F116 N) N code_116 := cuts_of (fun _ => rfl) code_116 (by rw [ll_F116]; exact fi_F116 N)
theorem v_F116 (args : List (IV A)) : (∀ (N : Nat) (R : Type) (k : IV A → List (IV A) → Option R), S_F116 N args k = none) ∨ ∃ (a1 : List UInt8), args = [.d (.str a1)] := by
  by_cases h : ∃ (a1 : List UInt8), args = [.d (.str a1)]
  · exact .inr h
  · refine .inl (fun N R k => ?_)
    unfold S_F116 SS_F116
    split
    · exact absurd ⟨_, rfl⟩ h
    · rfl
theorem sm_F116 (N : Nat) : Same (S_F116 N) (abody (E_F116 N) Tryz.f116 code_116 0 [] [.asis, .asis] N) := by
  intro args
  rcases v_F116 args with h | ⟨a1, rfl⟩
  · exact .inl (h N)
  · exact .inr (fun R k => (t_F116 N a1 R k).symm)
theorem fu_116 : Tryz.prog.funcs[116]? = some Tryz.f116 := by kernel_rfl
theorem bo_116 : Tryz.f116.body = some code_116 := by kernel_rfl
theorem fs_F116 (N : Nat) : FnSound Tryz.prog T 116 (S_F116 N) := fs_of (E_F116 N) rfl rfl (eo_F116 N) (ct_F116 N) mixed fu_116 bo_116 0 [] [.asis, .asis] N (cc_F116 N) (sm_F116 N)
theorem na_F116 (N : Nat) : NatSpec (S_F116 N) := na_of (E_F116 N) (ct_F116 N) Tryz.f116 code_116 0 [] [.asis, .asis] N (cc_F116 N) (sm_F116 N)
def L118_10 (g116 : TF116) (g128 : TF128) : Nat → Nat → List UInt8 → Int → Int → Int → {R : Type} → (List UInt8 → Int → Int → Option R) → Option R
  | _, 0, _, _, _, _, _, _ => none
  | N, n + 1, v3, v4, v5, v6, _, e0 => (bif (decide (v5 ≥ v6)) then (bif (decide (0 ≤ v5)) then (match v3[(v5 : Int).toNat]? with | some x8 => (g128 (x8.toNat : Int)) | none => none) else none) else e0 v3 v4 v5)
abbrev TF118 : Type 1 := List UInt8 → {R : Type} → (Int → Int → Option R) → Option R
def F118_ (g116 : TF116) (g128 : TF128) (N : Nat) (a1 : List UInt8) {R : Type} (k0 : Int → Int → Option R) : Option R :=
  (bif ((a1.length : Int) == 0) then k0 65533 0 else (bif (decide (0 ≤ (IntKind.i64.wrap ((a1.length : Int) - 1)))) then (match a1[((IntKind.i64.wrap ((a1.length : Int) - 1)) : Int).toNat]? with | some x2 => (bif (decide ((IntKind.i32.wrap (x2.toNat : Int)) < 128)) then k0 ((IntKind.i32.wrap (x2.toNat : Int))) 1 else (L118_10 g116 g128 N N a1 (a1.length : Int) ((IntKind.i64.wrap ((IntKind.i64.wrap ((a1.length : Int) - 1)) - 1))) ((if 0 > (IntKind.i64.wrap ((a1.length : Int) - 4)) then 0 else (IntKind.i64.wrap ((a1.length : Int) - 4)))) (fun e9 e10 e11 => (bif (decide (e11 < 0)) then (bif (decide (0 ≤ 0) && (decide (0 ≤ e10) && decide (e10 ≤ (e9.length : Int)))) then (g116 (((e9.take (e10 : Int).toNat).drop (0 : Int).toNat)) (fun r12 r13 => (bif ((IntKind.i64.wrap (0 + r13)) != e10) then k0 65533 1 else k0 r12 r13))) else none) else (bif (decide (0 ≤ e11) && (decide (e11 ≤ e10) && decide (e10 ≤ (e9.length : Int)))) then (g116 (((e9.take (e10 : Int).toNat).drop (e11 : Int).toNat)) (fun r14 r15 => (bif ((IntKind.i64.wrap (e11 + r15)) != e10) then k0 65533 1 else k0 r14 r15))) else none))))) | none => none) else none))
def F118 (N : Nat) : TF118 := @F118_ (@F116 N) (@F128 N) N
def p_F118 (args : List (IV A)) : Bool := match args with | [.d (.str _)] => true | _ => false
def SS_F118 (g : TF118) : Spec A := fun args _ k => match args with | [.d (.str a1)] => g a1 (fun z0 z1 => k (.tup [.d (.int .i32 z0), .d (.int .i64 z1)]) [.undef]) | _ => none
def S_F118 (N : Nat) : Spec A := SS_F118 (F118 N)
def sh_L118_10 : SSt := { fr := sparse .undef 51 [(0, .str), (4, .int .i64), (5, .int .i64), (6, .int .i64)], st := sparse .none 0 [] }
def LP_L118_10 (g116 : TF116) (g128 : TF128) (N n : Nat) (ps : List (Pv A)) {R : Type} (K : Ex → St A → Option R) : Option R := match ps with | [.d (.str p0), .d (.int .i64 p1), .d (.int .i64 p2), .d (.int .i64 p3)] => L118_10 g116 g128 N n p0 p1 p2 p3 (fun z0 z1 z2 => K (.exit 0) { fr := sparse .undef 51 [(0, .d (.str z0)), (4, .d (.int .i64 z1)), (5, .d (.int .i64 z2))], st := sparse none 0 [] }) | _ => none
def LS_L118_10 (g116 : TF116) (g128 : TF128) (N n : Nat) : Piece A := fun S _ K => match decSt sh_L118_10 S with | some ps => LP_L118_10 g116 g128 N n ps K | none => none
noncomputable def code_118 : Code := (Tryz.f118.body).getD .skip
def C_F118_ (g116 : TF116) (g128 : TF128) : List (Nat × Spec A) := [(116, SS_F116 g116), (128, SS_F128 g128)]
def C_F118 (N : Nat) : List (Nat × Spec A) := C_F118_ (@F116 N) (@F128 N)
noncomputable def E_F118_ (g116 : TF116) (g128 : TF128) (N : Nat) : Env A := { P := Tryz.prog, T := T, C := fun f => (C_F118_ g116 g128).lookup f, tg := fun d => ([].lookup d).getD [], seqH := fun _ => none, loopH := fun i => [(10, ({ keep := [0, 4, 5, 6], canon := [], stay := [] } : Hint))].lookup i, exitH := fun i => [(10, ({ keep := [0, 4, 5], canon := [], stay := [] } : Hint))].lookup i, cutL := fun i => [(10, LS_L118_10 g116 g128 N N)].lookup i, mode := fun f i => [].contains (f, i), keyed := keyT, flat := flatT, pin := [] }
noncomputable def E_F118 (N : Nat) : Env A := E_F118_ (@F116 N) (@F128 N) N
theorem tg_F118 (g116 : TF116) (g128 : TF128) (N : Nat) (a1 : List UInt8) (R : Type) (k : IV A → List (IV A) → Option R) : abody (E_F118_ g116 g128 N) Tryz.f118 code_118 0 [] [.asis, .asis] N [.d (.str a1)] k = SS_F118 (@F118_ g116 g128 N) [.d (.str a1)] k := by kernel_rfl
theorem t_F118 (N : Nat) (a1 : List UInt8) (R : Type) (k : IV A → List (IV A) → Option R) : abody (E_F118 N) Tryz.f118 code_118 0 [] [.asis, .asis] N [.d (.str a1)] k = S_F118 N [.d (.str a1)] k := tg_F118 (@F116 N) (@F128 N) N a1 R k
noncomputable def cb_L118_10 : Code := sub [1, 1, 1, 1, 1, 1, 1, 0, 1, 0, 0] code_118
noncomputable def bd_L118_10 (g116 : TF116) (g128 : TF128) (N : Nat) : Piece A := around (fun S _ K => aexec (E_F118_ g116 g128 N) N cb_L118_10 S K) ((firstReg cb_L118_10).bind (E_F118_ g116 g128 N).loopH) ((firstReg cb_L118_10).bind (E_F118_ g116 g128 N).exitH)
theorem b_L118_10 (g116 : TF116) (g128 : TF128) (N n : Nat) (p0 : List UInt8) (p1 : Int) (p2 : Int) (p3 : Int) (R : Type) (K : Ex → St A → Option R) : bd_L118_10 g116 g128 N { fr := sparse .undef 51 [(0, .d (.str p0)), (4, .d (.int .i64 p1)), (5, .d (.int .i64 p2)), (6, .d (.int .i64 p3))], st := sparse none 0 [] } (fun e S' => match e with | .normal => LS_L118_10 g116 g128 N n S' K | e => K e S') = LP_L118_10 g116 g128 N (n + 1) [.d (.str p0), .d (.int .i64 p1), .d (.int .i64 p2), .d (.int .i64 p3)] K := by kernel_rfl
theorem m_L118_10 (g116 : TF116) (g128 : TF128) (ps : List (Pv A)) : (∀ (N n : Nat) (R : Type) (K : Ex → St A → Option R), LP_L118_10 g116 g128 N n ps K = none) ∨ ∃ (p0 : List UInt8) (p1 : Int) (p2 : Int) (p3 : Int), ps = [.d (.str p0), .d (.int .i64 p1), .d (.int .i64 p2), .d (.int .i64 p3)] := by
  by_cases h : ∃ (p0 : List UInt8) (p1 : Int) (p2 : Int) (p3 : Int), ps = [.d (.str p0), .d (.int .i64 p1), .d (.int .i64 p2), .d (.int .i64 p3)]
  · exact .inr h
  · refine .inl (fun N n R K => ?_)
    unfold LP_L118_10
    split
    · exact absurd ⟨_, _, _, _, rfl⟩ h
    · rfl
theorem s_L118_10 (g116 : TF116) (g128 : TF128) (N n : Nat) (S : St A) : (∀ (R : Type) (K : Ex → St A → Option R), LS_L118_10 g116 g128 N (n + 1) S K = none) ∨ ∀ (R : Type) (K : Ex → St A → Option R), LS_L118_10 g116 g128 N (n + 1) S K = bd_L118_10 g116 g128 N S (fun e S' => match e with | .normal => LS_L118_10 g116 g128 N n S' K | e => K e S') := by
  cases hd : decSt sh_L118_10 S with
  | none => exact .inl (fun R K => by unfold LS_L118_10; rw [hd])
  | some ps =>
    have he := decSt_enc hd
    rcases m_L118_10 g116 g128 ps with h | ⟨p0, p1, p2, p3, rfl⟩
    · exact .inl (fun R K => by unfold LS_L118_10; rw [hd]; exact h N (n + 1) R K)
    · have hS : encSt (A := A) sh_L118_10 [.d (.str p0), .d (.int .i64 p1), .d (.int .i64 p2), .d (.int .i64 p3)] = some { fr := sparse .undef 51 [(0, .d (.str p0)), (4, .d (.int .i64 p1)), (5, .d (.int .i64 p2)), (6, .d (.int .i64 p3))], st := sparse none 0 [] } := by kernel_rfl
      rw [hS] at he
      obtain rfl := Option.some.inj he
      refine .inr (fun R K => ?_)
      rw [b_L118_10]
      unfold LS_L118_10
      rw [hd]
theorem z_L118_10 (g116 : TF116) (g128 : TF128) (N : Nat) (R : Type) (S : St A) (K : Ex → St A → Option R) : LS_L118_10 g116 g128 N 0 S K = none := by
  unfold LS_L118_10
  cases decSt sh_L118_10 S with
  | none => rfl
  | some ps =>
    simp only
    unfold LP_L118_10
    split <;> (try unfold L118_10) <;> rfl
theorem en_118 : Enters Tryz.prog 118 := enters_of (fn := Tryz.f118) (by kernel_rfl) (by kernel_rfl) (by kernel_rfl)
theorem en_F118 : Enters Tryz.prog 118 := en_118
theorem tl_F118 (N : Nat) : TabL Tryz.prog T (C_F118 N) := (.cons (fs_F116 N) en_F116 (.cons (fs_F128 N) en_F128 .nil))
theorem nl_F118 (N : Nat) : NatL (C_F118 N) := (.cons (na_F116 N) (.cons (na_F128 N) .nil))
theorem ct_F118 (N : Nat) : NatTab (E_F118 N).C := tab_nat (l := C_F118 N) (nl_F118 N)
theorem eo_F118 (N : Nat) : EnvOk (E_F118 N) := ⟨tyOk Tryz.prog, tab_sound (l := C_F118 N) (tl_F118 N), flatOk, keysOk⟩
theorem ll_L118_10 : loopsOf cb_L118_10 = [] := by kernel_rfl
theorem fi_L118_10 (N : Nat) : FineL (E_F118 N) N [] := .nil
theorem cc_L118_10 (N : Nat) : CutsOk (E_F118 N) N cb_L118_10 := cuts_of (fun _ => rfl) cb_L118_10 (by rw [ll_L118_10]; exact fi_L118_10 N)
theorem cg_L118_10 (g116 : TF116) (g128 : TF128) (N : Nat) : (firstReg cb_L118_10).bind (E_F118_ g116 g128 N).cutL = some (LS_L118_10 g116 g128 N N) := by kernel_rfl
theorem ce_L118_10 (N : Nat) : (firstReg cb_L118_10).bind (E_F118 N).cutL = some (LS_L118_10 (@F116 N) (@F128 N) N N) := cg_L118_10 (@F116 N) (@F128 N) N
theorem lf_L118_10 (N : Nat) : LoopFine (E_F118 N) N cb_L118_10 := fine_of (LS_L118_10 (@F116 N) (@F128 N) N) (ce_L118_10 N) (ct_F118 N) (cc_L118_10 N) (z_L118_10 (@F116 N) (@F128 N) N) (s_L118_10 (@F116 N) (@F128 N) N)
theorem ll_F118 : loopsOf code_118 = [cb_L118_10] := by kernel_rfl
theorem fi_F118 (N : Nat) : FineL (E_F118 N) N [cb_L118_10] := (.cons (lf_L118_10 N) .nil)
theorem cc_F118 (N : Nat) : CutsOk (E_F118 N) N code_118 := cuts_of (fun _ => rfl) code_118 (by rw [ll_F118]; exact fi_F118 N)
theorem v_F118 (args : List (IV A)) : (∀ (N : Nat) (R : Type) (k : IV A → List (IV A) → Option R), S_F118 N args k = none) ∨ ∃ (a1 : List UInt8), args = [.d (.str a1)] := by
  by_cases h : ∃ (a1 : List UInt8), args = [.d (.str a1)]
  · exact .inr h
  · refine .inl (fun N R k => ?_)
    unfold S_F118 SS_F118
    split
    · exact absurd ⟨_, rfl⟩ h
    · rfl
theorem sm_F118 (N : Nat) : Same (S_F118 N) (abody (E_F118 N) Tryz.f118 code_118 0 [] [.asis, .asis] N) := by
  intro args
  rcases v_F118 args with h | ⟨a1, rfl⟩
  · exact .inl (h N)
  · exact .inr (fun R k => (t_F118 N a1 R k).symm)
theorem fu_118 : Tryz.prog.funcs[118]? = some Tryz.f118 := by kernel_rfl
theorem bo_118 : Tryz.f118.body = some code_118 := by kernel_rfl
theorem fs_F118 (N : Nat) : FnSound Tryz.prog T 118 (S_F118 N) := fs_of (E_F118 N) rfl rfl (eo_F118 N) (ct_F118 N) mixed fu_118 bo_118 0 [] [.asis, .asis] N (cc_F118 N) (sm_F118 N)
theorem na_F118 (N : Nat) : NatSpec (S_F118 N) := na_of (E_F118 N) (ct_F118 N) Tryz.f118 code_118 0 [] [.asis, .asis] N (cc_F118 N) (sm_F118 N)
def L109_24 (g98 : TF98) (g118 : TF118) (g124 : TF124) (g125 : TF125) : Nat → Nat → List UInt8 → Int → Int → {R : Type} → (Int → Option R) → (Option R) → Option R
  | _, 0, _, _, _, _, _, _ => none
  | N, n + 1, v8, v9, v10, _, e0, e1 => (bif (decide (v10 > 0)) then (bif (decide (0 ≤ v10) && decide (v10 ≤ (v8.length : Int))) then (g118 ((v8.take (v10 : Int).toNat)) (fun r13 r14 => (bif (v9 == r13) then e0 ((IntKind.i64.wrap (v10 - r14))) else L109_24 g98 g118 g124 g125 N n v8 v9 ((IntKind.i64.wrap (v10 - r14))) e0 e1))) else none) else e1)
def L109_31 (g98 : TF98) (g118 : TF118) (g124 : TF124) (g125 : TF125) : Nat → Nat → List UInt8 → List UInt8 → Int → {R : Type} → (Int → Option R) → (Option R) → Option R
  | _, 0, _, _, _, _, _, _ => none
  | N, n + 1, v17, v18, v19, _, e0, e1 => (bif (decide (v19 > 0)) then (bif (decide (0 ≤ v19) && decide (v19 ≤ (v17.length : Int))) then (g118 ((v17.take (v19 : Int).toNat)) (fun r23 r24 => (g124 v18 r23 (fun r25 => (bif (decide (r25 ≥ 0)) then e0 ((IntKind.i64.wrap (v19 - r24))) else L109_31 g98 g118 g124 g125 N n v17 v18 ((IntKind.i64.wrap (v19 - r24))) e0 e1))))) else none) else e1)
abbrev TF109 : Type 1 := List UInt8 → List UInt8 → {R : Type} → (Int → Option R) → Option R
def F109_ (g98 : TF98) (g118 : TF118) (g124 : TF124) (g125 : TF125) (N : Nat) (a1 : List UInt8) (a2 : List UInt8) {R : Type} (k0 : Int → Option R) : Option R :=
  (bif (a2 == []) then k0 (-1) else (bif ((a1.length : Int) == 1) then (match a1[(0 : Int).toNat]? with | some x3 => (bif (decide ((IntKind.i32.wrap (x3.toNat : Int)) ≥ 128)) then (g124 a2 65533 (fun r4 => (bif (decide (r4 ≥ 0)) then k0 0 else k0 (-1)))) else (g124 a2 ((IntKind.i32.wrap (x3.toNat : Int))) (fun r5 => (bif (decide (r5 ≥ 0)) then k0 0 else k0 (-1))))) | none => none) else (g125 (a1.length : Int) (fun r6 => (bif r6 then (g98 a2) else (bif ((a2.length : Int) == 1) then (match a2[(0 : Int).toNat]? with | some x7 => (bif (decide ((IntKind.i32.wrap (x7.toNat : Int)) ≥ 128)) then (L109_24 g98 g118 g124 g125 N N a1 65533 (a1.length : Int) (fun e15 => k0 e15) (k0 (-1))) else (L109_24 g98 g118 g124 g125 N N a1 ((IntKind.i32.wrap (x7.toNat : Int))) (a1.length : Int) (fun e16 => k0 e16) (k0 (-1)))) | none => none) else (L109_31 g98 g118 g124 g125 N N a1 a2 (a1.length : Int) (fun e26 => k0 e26) (k0 (-1)))))))))
def F109 (N : Nat) : TF109 := @F109_ (@F98 N) (@F118 N) (@F124 N) (@F125 N) N
def p_F109 (args : List (IV A)) : Bool := match args with | [.d (.str _), .d (.str _)] => true | _ => false
def SS_F109 (g : TF109) : Spec A := fun args _ k => match args with | [.d (.str a1), .d (.str a2)] => g a1 a2 (fun z0 => k (.d (.int .i64 z0)) [.undef, .undef]) | _ => none
def S_F109 (N : Nat) : Spec A := SS_F109 (F109 N)
def sh_L109_24 : SSt := { fr := sparse .undef 96 [(0, .str), (9, .int .i32), (10, .int .i64)], st := sparse .none 0 [] }
def LP_L109_24 (g98 : TF98) (g118 : TF118) (g124 : TF124) (g125 : TF125) (N n : Nat) (ps : List (Pv A)) {R : Type} (K : Ex → St A → Option R) : Option R := match ps with | [.d (.str p0), .d (.int .i32 p1), .d (.int .i64 p2)] => L109_24 g98 g118 g124 g125 N n p0 p1 p2 (fun z0 => K .ret { fr := sparse .undef 96 [(4, .d (.int .i64 z0))], st := sparse none 0 [] }) (K (.exit 2) { fr := sparse .undef 96 [], st := sparse none 0 [] }) | _ => none
def LS_L109_24 (g98 : TF98) (g118 : TF118) (g124 : TF124) (g125 : TF125) (N n : Nat) : Piece A := fun S _ K => match decSt sh_L109_24 S with | some ps => LP_L109_24 g98 g118 g124 g125 N n ps K | none => none
def sh_L109_31 : SSt := { fr := sparse .undef 96 [(0, .str), (1, .str), (13, .int .i64)], st := sparse .none 0 [] }
def LP_L109_31 (g98 : TF98) (g118 : TF118) (g124 : TF124) (g125 : TF125) (N n : Nat) (ps : List (Pv A)) {R : Type} (K : Ex → St A → Option R) : Option R := match ps with | [.d (.str p0), .d (.str p1), .d (.int .i64 p2)] => L109_31 g98 g118 g124 g125 N n p0 p1 p2 (fun z0 => K .ret { fr := sparse .undef 96 [(4, .d (.int .i64 z0))], st := sparse none 0 [] }) (K (.exit 4) { fr := sparse .undef 96 [], st := sparse none 0 [] }) | _ => none
def LS_L109_31 (g98 : TF98) (g118 : TF118) (g124 : TF124) (g125 : TF125) (N n : Nat) : Piece A := fun S _ K => match decSt sh_L109_31 S with | some ps => LP_L109_31 g98 g118 g124 g125 N n ps K | none => none
noncomputable def code_109 : Code := (Tryz.f109.body).getD .skip
def C_F109_ (g98 : TF98) (g118 : TF118) (g124 : TF124) (g125 : TF125) : List (Nat × Spec A) := [(98, SS_F98 g98), (118, SS_F118 g118), (124, SS_F124 g124), (125, SS_F125 g125)]
def C_F109 (N : Nat) : List (Nat × Spec A) := C_F109_ (@F98 N) (@F118 N) (@F124 N) (@F125 N)
noncomputable def E_F109_ (g98 : TF98) (g118 : TF118) (g124 : TF124) (g125 : TF125) (N : Nat) : Env A := { P := Tryz.prog, T := T, C := fun f => (C_F109_ g98 g118 g124 g125).lookup f, tg := fun d => ([].lookup d).getD [], seqH := fun _ => none, loopH := fun i => [(24, ({ keep := [0, 9, 10], canon := [], stay := [] } : Hint)), (31, ({ keep := [0, 1, 13], canon := [], stay := [] } : Hint))].lookup i, exitH := fun i => [(24, ({ keep := [4], canon := [], stay := [] } : Hint)), (31, ({ keep := [4], canon := [], stay := [] } : Hint))].lookup i, cutL := fun i => [(24, LS_L109_24 g98 g118 g124 g125 N N), (31, LS_L109_31 g98 g118 g124 g125 N N)].lookup i, mode := fun f i => [].contains (f, i), keyed := keyT, flat := flatT, pin := [] }
noncomputable def E_F109 (N : Nat) : Env A := E_F109_ (@F98 N) (@F118 N) (@F124 N) (@F125 N) N
theorem tg_F109 (g98 : TF98) (g118 : TF118) (g124 : TF124) (g125 : TF125) (N : Nat) (a1 : List UInt8) (a2 : List UInt8) (R : Type) (k : IV A → List (IV A) → Option R) : abody (E_F109_ g98 g118 g124 g125 N) Tryz.f109 code_109 0 [] [.asis] N [.d (.str a1), .d (.str a2)] k = SS_F109 (@F109_ g98 g118 g124 g125 N) [.d (.str a1), .d (.str a2)] k := by kernel_rfl
theorem t_F109 (N : Nat) (a1 : List UInt8) (a2 : List UInt8) (R : Type) (k : IV A → List (IV A) → Option R) : abody (E_F109 N) Tryz.f109 code_109 0 [] [.asis] N [.d (.str a1), .d (.str a2)] k = S_F109 N [.d (.str a1), .d (.str a2)] k := tg_F109 (@F98 N) (@F118 N) (@F124 N) (@F125 N) N a1 a2 R k
noncomputable def cb_L109_24 : Code := sub [1, 1, 1, 1, 0, 1, 0, 1, 1, 0, 1, 0, 0] code_109
noncomputable def bd_L109_24 (g98 : TF98) (g118 : TF118) (g124 : TF124) (g125 : TF125) (N : Nat) : Piece A := around (fun S _ K => aexec (E_F109_ g98 g118 g124 g125 N) N cb_L109_24 S K) ((firstReg cb_L109_24).bind (E_F109_ g98 g118 g124 g125 N).loopH) ((firstReg cb_L109_24).bind (E_F109_ g98 g118 g124 g125 N).exitH)
theorem b_L109_24 (g98 : TF98) (g118 : TF118) (g124 : TF124) (g125 : TF125) (N n : Nat) (p0 : List UInt8) (p1 : Int) (p2 : Int) (R : Type) (K : Ex → St A → Option R) : bd_L109_24 g98 g118 g124 g125 N { fr := sparse .undef 96 [(0, .d (.str p0)), (9, .d (.int .i32 p1)), (10, .d (.int .i64 p2))], st := sparse none 0 [] } (fun e S' => match e with | .normal => LS_L109_24 g98 g118 g124 g125 N n S' K | e => K e S') = LP_L109_24 g98 g118 g124 g125 N (n + 1) [.d (.str p0), .d (.int .i32 p1), .d (.int .i64 p2)] K := by kernel_rfl
theorem m_L109_24 (g98 : TF98) (g118 : TF118) (g124 : TF124) (g125 : TF125) (ps : List (Pv A)) : (∀ (N n : Nat) (R : Type) (K : Ex → St A → Option R), LP_L109_24 g98 g118 g124 g125 N n ps K = none) ∨ ∃ (p0 : List UInt8) (p1 : Int) (p2 : Int), ps = [.d (.str p0), .d (.int .i32 p1), .d (.int .i64 p2)] := by
  by_cases h : ∃ (p0 : List UInt8) (p1 : Int) (p2 : Int), ps = [.d (.str p0), .d (.int .i32 p1), .d (.int .i64 p2)]
  · exact .inr h
  · refine .inl (fun N n R K => ?_)
    unfold LP_L109_24
    split
    · exact absurd ⟨_, _, _, rfl⟩ h
    · rfl
theorem s_L109_24 (g98 : TF98) (g118 : TF118) (g124 : TF124) (g125 : TF125) (N n : Nat) (S : St A) : (∀ (R : Type) (K : Ex → St A → Option R), LS_L109_24 g98 g118 g124 g125 N (n + 1) S K = none) ∨ ∀ (R : Type) (K : Ex → St A → Option R), LS_L109_24 g98 g118 g124 g125 N (n + 1) S K = bd_L109_24 g98 g118 g124 g125 N S (fun e S' => match e with | .normal => LS_L109_24 g98 g118 g124 g125 N n S' K | e => K e S') := by
  cases hd : decSt sh_L109_24 S with
  | none => exact .inl (fun R K => by unfold LS_L109_24; rw [hd])
  | some ps =>
    have he := decSt_enc hd
    rcases m_L109_24 g98 g118 g124 g125 ps with h | ⟨p0, p1, p2, rfl⟩
    · exact .inl (fun R K => by unfold LS_L109_24; rw [hd]; exact h N (n + 1) R K)
    · have hS : encSt (A := A) sh_L109_24 [.d (.str p0), .d (.int .i32 p1), .d (.int .i64 p2)] = some { fr := sparse .undef 96 [(0, .d (.str p0)), (9, .d (.int .i32 p1)), (10, .d (.int .i64 p2))], st := sparse none 0 [] } := by kernel_rfl
      rw [hS] at he
      obtain rfl := Option.some.inj he
      refine .inr (fun R K => ?_)
      rw [b_L109_24]
      unfold LS_L109_24
      rw [hd]
theorem z_L109_24 (g98 : TF98) (g118 : TF118) (g124 : TF124) (g125 : TF125) (N : Nat) (R : Type) (S : St A) (K : Ex → St A → Option R) : LS_L109_24 g98 g118 g124 g125 N 0 S K = none := by
  unfold LS_L109_24
  cases decSt sh_L109_24 S with
  | none => rfl
  | some ps =>
    simp only
    unfold LP_L109_24
    split <;> (try unfold L109_24) <;> rfl
noncomputable def cb_L109_31 : Code := sub [1, 1, 1, 1, 1, 0, 1, 0, 0] code_109
noncomputable def bd_L109_31 (g98 : TF98) (g118 : TF118) (g124 : TF124) (g125 : TF125) (N : Nat) : Piece A := around (fun S _ K => aexec (E_F109_ g98 g118 g124 g125 N) N cb_L109_31 S K) ((firstReg cb_L109_31).bind (E_F109_ g98 g118 g124 g125 N).loopH) ((firstReg cb_L109_31).bind (E_F109_ g98 g118 g124 g125 N).exitH)
theorem b_L109_31 (g98 : TF98) (g118 : TF118) (g124 : TF124) (g125 : TF125) (N n : Nat) (p0 : List UInt8) (p1 : List UInt8) (p2 : Int) (R : Type) (K : Ex → St A → Option R) : bd_L109_31 g98 g118 g124 g125 N { fr := sparse .undef 96 [(0, .d (.str p0)), (1, .d (.str p1)), (13, .d (.int .i64 p2))], st := sparse none 0 [] } (fun e S' => match e with | .normal => LS_L109_31 g98 g118 g124 g125 N n S' K | e => K e S') = LP_L109_31 g98 g118 g124 g125 N (n + 1) [.d (.str p0), .d (.str p1), .d (.int .i64 p2)] K := by kernel_rfl
theorem m_L109_31 (g98 : TF98) (g118 : TF118) (g124 : TF124) (g125 : TF125) (ps : List (Pv A)) : (∀ (N n : Nat) (R : Type) (K : Ex → St A → Option R), LP_L109_31 g98 g118 g124 g125 N n ps K = none) ∨ ∃ (p0 : List UInt8) (p1 : List UInt8) (p2 : Int), ps = [.d (.str p0), .d (.str p1), .d (.int .i64 p2)] := by
  by_cases h : ∃ (p0 : List UInt8) (p1 : List UInt8) (p2 : Int), ps = [.d (.str p0), .d (.str p1), .d (.int .i64 p2)]
  · exact .inr h
  · refine .inl (fun N n R K => ?_)
    unfold LP_L109_31
    split
    · exact absurd ⟨_, _, _, rfl⟩ h
    · rfl
theorem s_L109_31 (g98 : TF98) (g118 : TF118) (g124 : TF124) (g125 : TF125) (N n : Nat) (S : St A) : (∀ (R : Type) (K : Ex → St A → Option R), LS_L109_31 g98 g118 g124 g125 N (n + 1) S K = none) ∨ ∀ (R : Type) (K : Ex → St A → Option R), LS_L109_31 g98 g118 g124 g125 N (n + 1) S K = bd_L109_31 g98 g118 g124 g125 N S (fun e S' => match e with | .normal => LS_L109_31 g98 g118 g124 g125 N n S' K | e => K e S') := by
  cases hd : decSt sh_L109_31 S with
  | none => exact .inl (fun R K => by unfold LS_L109_31; rw [hd])
  | some ps =>
    have he := decSt_enc hd
    rcases m_L109_31 g98 g118 g124 g125 ps with h | ⟨p0, p1, p2, rfl⟩
    · exact .inl (fun R K => by unfold LS_L109_31; rw [hd]; exact h N (n + 1) R K)
    · have hS : encSt (A := A) sh_L109_31 [.d (.str p0), .d (.str p1), .d (.int .i64 p2)] = some { fr := sparse .undef 96 [(0, .d (.str p0)), (1, .d (.str p1)), (13, .d (.int .i64 p2))], st := sparse none 0 [] } := by kernel_rfl
      rw [hS] at he
      obtain rfl := Option.some.inj he
      refine .inr (fun R K => ?_)
      rw [b_L109_31]
      unfold LS_L109_31
      rw [hd]
theorem z_L109_31 (g98 : TF98) (g118 : TF118) (g124 : TF124) (g125 : TF125) (N : Nat) (R : Type) (S : St A) (K : Ex → St A → Option R) : LS_L109_31 g98 g118 g124 g125 N 0 S K = none := by
  unfold LS_L109_31
  cases decSt sh_L109_31 S with
  | none => rfl
  | some ps =>
    simp only
    unfold LP_L109_31
    split <;> (try unfold L109_31) <;> rfl
theorem en_109 : Enters Tryz.prog 109 := enters_of (fn := Tryz.f109) (by kernel_rfl) (by kernel_rfl) (by kernel_rfl)
theorem en_F109 : Enters Tryz.prog 109 := en_109
theorem tl_F109 (N : Nat) : TabL Tryz.prog T (C_F109 N) := (.cons (fs_F98 N) en_F98 (.cons (fs_F118 N) en_F118 (.cons (fs_F124 N) en_F124 (.cons (fs_F125 N) en_F125 .nil))))
theorem nl_F109 (N : Nat) : NatL (C_F109 N) := (.cons (na_F98 N) (.cons (na_F118 N) (.cons (na_F124 N) (.cons (na_F125 N) .nil))))
theorem ct_F109 (N : Nat) : NatTab (E_F109 N).C := tab_nat (l := C_F109 N) (nl_F109 N)
theorem eo_F109 (N : Nat) : EnvOk (E_F109 N) := ⟨tyOk Tryz.prog, tab_sound (l := C_F109 N) (tl_F109 N), flatOk, keysOk⟩
noncomputable def cb_L109_14 : Code := sub [1, 1, 1, 0, 1, 0, 1, 1, 0, 0, 1, 0, 0] code_109
theorem ce_L109_14 (N : Nat) : (firstReg cb_L109_14).bind (E_F109 N).cutL = none := by kernel_rfl
theorem lf_L109_14 (N : Nat) : LoopFine (E_F109 N) N cb_L109_14 := fun f hf => by rw [ce_L109_14] at hf; cases hf
theorem ll_L109_24 : loopsOf cb_L109_24 = [] := by kernel_rfl
theorem fi_L109_24 (N : Nat) : FineL (E_F109 N) N [] := .nil
theorem cc_L109_24 (N : Nat) : CutsOk (E_F109 N) N cb_L109_24 := cuts_of (fun _ => rfl) cb_L109_24 (by rw [ll_L109_24]; exact fi_L109_24 N)
theorem cg_L109_24 (g98 : TF98) (g118 : TF118) (g124 : TF124) (g125 : TF125) (N : Nat) : (firstReg cb_L109_24).bind (E_F109_ g98 g118 g124 g125 N).cutL = some (LS_L109_24 g98 g118 g124 g125 N N) := by kernel_rfl
theorem ce_L109_24 (N : Nat) : (firstReg cb_L109_24).bind (E_F109 N).cutL = some (LS_L109_24 (@F98 N) (@F118 N) (@F124 N) (@F125 N) N N) := cg_L109_24 (@F98 N) (@F118 N) (@F124 N) (@F125 N) N
theorem lf_L109_24 (N : Nat) : LoopFine (E_F109 N) N cb_L109_24 := fine_of (LS_L109_24 (@F98 N) (@F118 N) (@F124 N) (@F125 N) N) (ce_L109_24 N) (ct_F109 N) (cc_L109_24 N) (z_L109_24 (@F98 N) (@F118 N) (@F124 N) (@F125 N) N) (s_L109_24 (@F98 N) (@F118 N) (@F124 N) (@F125 N) N)
theorem ll_L109_31 : loopsOf cb_L109_31 = [] := by kernel_rfl
theorem fi_L109_31 (N : Nat) : FineL (E_F109 N) N [] := .nil
theorem cc_L109_31 (N : Nat) : CutsOk (E_F109 N) N cb_L109_31 := cuts_of (fun _ => rfl) cb_L109_31 (by rw [ll_L109_31]; exact fi_L109_31 N)
theorem cg_L109_31 (g98 : TF98) (g118 : TF118) (g124 : TF124) (g125 : TF125) (N : Nat) : (firstReg cb_L109_31).bind (E_F109_ g98 g118 g124 g125 N).cutL = some (LS_L109_31 g98 g118 g124 g125 N N) := by kernel_rfl
theorem ce_L109_31 (N : Nat) : (firstReg cb_L109_31).bind (E_F109 N).cutL = some (LS_L109_31 (@F98 N) (@F118 N) (@F124 N) (@F125 N) N N) := cg_L109_31 (@F98 N) (@F118 N) (@F124 N) (@F125 N) N
theorem lf_L109_31 (N : Nat) : LoopFine (E_F109 N) N cb_L109_31 := fine_of (LS_L109_31 (@F98 N) (@F118 N) (@F124 N) (@F125 N) N) (ce_L109_31 N) (ct_F109 N) (cc_L109_31 N) (z_L109_31 (@F98 N) (@F118 N) (@F124 N) (@F125 N) N) (s_L109_31 (@F98 N) (@F118 N) (@F124 N) (@F125 N) N)
theorem ll_F109 : loopsOf code_109 = [cb_L109_14, cb_L109_24, cb_L109_31] := by kernel_rfl
theorem fi_F109 (N : Nat) : FineL (E_F109 N) N [cb_L109_14, cb_L109_24, cb_L109_31] := (.cons (lf_L109_14 N) (.cons (lf_L109_24 N) (.cons (lf_L109_31 N) .nil)))
theorem cc_F109 (N : Nat) : CutsOk (E_F109 N) N code_109 := cuts_of (fun _ => rfl) code_109 (by rw [ll_F109]; exact fi_F109 N)
theorem v_F109 (args : List (IV A)) : (∀ (N : Nat) (R : Type) (k : IV A → List (IV A) → Option R), S_F109 N args k = none) ∨ ∃ (a1 : List UInt8) (a2 : List UInt8), args = [.d (.str a1), .d (.str a2)] := by
  by_cases h : ∃ (a1 : List UInt8) (a2 : List UInt8), args = [.d (.str a1), .d (.str a2)]
  · exact .inr h
  · refine .inl (fun N R k => ?_)
    unfold S_F109 SS_F109
    split
    · exact absurd ⟨_, _, rfl⟩ h
    · rfl
theorem sm_F109 (N : Nat) : Same (S_F109 N) (abody (E_F109 N) Tryz.f109 code_109 0 [] [.asis] N) := by
  intro args
  rcases v_F109 args with h | ⟨a1, a2, rfl⟩
  · exact .inl (h N)
  · exact .inr (fun R k => (t_F109 N a1 a2 R k).symm)
theorem fu_109 : Tryz.prog.funcs[109]? = some Tryz.f109 := by kernel_rfl
theorem bo_109 : Tryz.f109.body = some code_109 := by kernel_rfl
theorem fs_F109 (N : Nat) : FnSound Tryz.prog T 109 (S_F109 N) := fs_of (E_F109 N) rfl rfl (eo_F109 N) (ct_F109 N) mixed fu_109 bo_109 0 [] [.asis] N (cc_F109 N) (sm_F109 N)
theorem na_F109 (N : Nat) : NatSpec (S_F109 N) := na_of (E_F109 N) (ct_F109 N) Tryz.f109 code_109 0 [] [.asis] N (cc_F109 N) (sm_F109 N)
abbrev TF119 : Type 1 := List UInt8 → {R : Type} → (Int → Bool → Option R) → Option R
def F119_ (g109 : TF109) (g120 : TF120) (N : Nat) (a1 : List UInt8) {R : Type} (k0 : Int → Bool → Option R) : Option R :=
  (g120 a1 (fun r2 r3 => (bif (!r3) then k0 0 false else (bif (decide ((a1.length : Int) > 10)) then k0 0 false else (g109 a1 [48, 49, 50, 51, 52, 53, 54, 55, 56, 57] (fun r4 => (bif (decide (r4 < 1)) then k0 0 false else (bif (decide (r4 > 3)) then k0 0 false else (bif (decide ((IntKind.i64.wrap ((IntKind.i64.wrap ((a1.length : Int) - r4)) - 1)) < 1)) then k0 0 false else (bif (decide ((IntKind.i64.wrap ((IntKind.i64.wrap ((a1.length : Int) - r4)) - 1)) > 4)) then k0 0 false else (bif (decide (0 ≤ r4) && decide (r4 ≤ (a1.length : Int))) then (g120 ((a1.take (r4 : Int).toNat)) (fun r5 r6 => k0 r4 ((decide (r5 > 0))))) else none)))))))))))
def F119 (N : Nat) : TF119 := @F119_ (@F109 N) (@F120 N) N
def p_F119 (args : List (IV A)) : Bool := match args with | [.d (.str _)] => true | _ => false
def SS_F119 (g : TF119) : Spec A := fun args _ k => match args with | [.d (.str a1)] => g a1 (fun z0 z1 => k (.tup [.d (.int .i64 z0), .d (.bool z1)]) [.undef]) | _ => none
def S_F119 (N : Nat) : Spec A := SS_F119 (F119 N)
noncomputable def code_119 : Code := (Tryz.f119.body).getD .skip
def C_F119_ (g109 : TF109) (g120 : TF120) : List (Nat × Spec A) := [(109, SS_F109 g109), (120, SS_F120 g120)]
def C_F119 (N : Nat) : List (Nat × Spec A) := C_F119_ (@F109 N) (@F120 N)
noncomputable def E_F119_ (g109 : TF109) (g120 : TF120) (N : Nat) : Env A := { P := Tryz.prog, T := T, C := fun f => (C_F119_ g109 g120).lookup f, tg := fun d => ([].lookup d).getD [], seqH := fun _ => none, loopH := fun i => [].lookup i, exitH := fun i => [].lookup i, cutL := fun _ => none, mode := fun f i => [].contains (f, i), keyed := keyT, flat := flatT, pin := [] }
noncomputable def E_F119 (N : Nat) : Env A := E_F119_ (@F109 N) (@F120 N) N
theorem tg_F119 (g109 : TF109) (g120 : TF120) (N : Nat) (a1 : List UInt8) (R : Type) (k : IV A → List (IV A) → Option R) : abody (E_F119_ g109 g120 N) Tryz.f119 code_119 0 [] [.asis, .asis] N [.d (.str a1)] k = SS_F119 (@F119_ g109 g120 N) [.d (.str a1)] k := by kernel_rfl
theorem t_F119 (N : Nat) (a1 : List UInt8) (R : Type) (k : IV A → List (IV A) → Option R) : abody (E_F119 N) Tryz.f119 code_119 0 [] [.asis, .asis] N [.d (.str a1)] k = S_F119 N [.d (.str a1)] k := tg_F119 (@F109 N) (@F120 N) N a1 R k
theorem en_119 : Enters Tryz.prog 119 := enters_of (fn := Tryz.f119) (by kernel_rfl) (by kernel_rfl) (by kernel_rfl)
theorem en_F119 : Enters Tryz.prog 119 := en_119
theorem tl_F119 (N : Nat) : TabL Tryz.prog T (C_F119 N) := (.cons (fs_F109 N) en_F109 (.cons (fs_F120 N) en_F120 .nil))
theorem nl_F119 (N : Nat) : NatL (C_F119 N) := (.cons (na_F109 N) (.cons (na_F120 N) .nil))
theorem ct_F119 (N : Nat) : NatTab (E_F119 N).C := tab_nat (l := C_F119 N) (nl_F119 N)
theorem eo_F119 (N : Nat) : EnvOk (E_F119 N) := ⟨tyOk Tryz.prog, tab_sound (l := C_F119 N) (tl_F119 N), flatOk, keysOk⟩
theorem ll_F119 : loopsOf code_119 = [] := by kernel_rfl
theorem fi_F119 (N : Nat) : FineL (E_F119 N) N [] := .nil
theorem cc_F119 (N : Nat) : CutsOk (E_F119 N) N code_119 := cuts_of (fun _ => rfl) code_119 (by rw [ll_F119]; exact fi_F119 N)
theorem v_F119 (args : List (IV A)) : (∀ (N : Nat) (R : Type) (k : IV A → List (IV A) → Option R), S_F119 N args k = none) ∨ ∃ (a1 : List UInt8), args = [.d (.str a1)] := by
  by_cases h : ∃ (a1 : List UInt8), args = [.d (.str a1)]
  · exact .inr h
  · refine .inl (fun N R k => ?_)
    unfold S_F119 SS_F119
    split
    · exact absurd ⟨_, rfl⟩ h
    · rfl
theorem sm_F119 (N : Nat) : Same (S_F119 N) (abody (E_F119 N) Tryz.f119 code_119 0 [] [.asis, .asis] N) := by
  intro args
  rcases v_F119 args with h | ⟨a1, rfl⟩
  · exact .inl (h N)
  · exact .inr (fun R k => (t_F119 N a1 R k).symm)
theorem fu_119 : Tryz.prog.funcs[119]? = some Tryz.f119 := by kernel_rfl
theorem bo_119 : Tryz.f119.body = some code_119 := by kernel_rfl
theorem fs_F119 (N : Nat) : FnSound Tryz.prog T 119 (S_F119 N) := fs_of (E_F119 N) rfl rfl (eo_F119 N) (ct_F119 N) mixed fu_119 bo_119 0 [] [.asis, .asis] N (cc_F119 N) (sm_F119 N)
theorem na_F119 (N : Nat) : NatSpec (S_F119 N) := na_of (E_F119 N) (ct_F119 N) Tryz.f119 code_119 0 [] [.asis, .asis] N (cc_F119 N) (sm_F119 N)
end Go.Am
