/- The functions of the program as Lean functions, each shown to be what the code computes, part 11. No condition: lemmas for the claim. -/
import Derived.Test.YthfphbbhjodbcaaGreatDoorF0
import Derived.Test.YthfphbbhjodbcaaGreatDoorFSh
import Derived.Test.YthfphbbhjodbcaaGreatDoorF6
import Derived.Test.YthfphbbhjodbcaaGreatDoorF10
set_option linter.unusedVariables false
set_option maxRecDepth 100000
namespace Go.Am
open Go Go.Proofs
def L24_4 : Nat → Nat → List (Int) → List (Int) → Int → Int → {R : Type} → (Bool → Option R) → (Option R) → Option R
  | _, 0, _, _, _, _, _, _, _ => none
  | N, n + 1, v3, v4, v5, v6, _, e0, e1 => (bif (decide (v6 < v5)) then (bif (decide (0 ≤ v6)) then (match v3[(v6 : Int).toNat]? with | some x9 => (bif (decide (0 ≤ v6)) then (match v4[(v6 : Int).toNat]? with | some x10 => (bif (x9 != x10) then e0 false else L24_4 N n v3 v4 v5 ((IntKind.i64.wrap (v6 + 1))) e0 e1) | none => none) else none) | none => none) else none) else e1)
abbrev TF24 : Type 1 := List (Int) → List (Int) → {R : Type} → (Bool → Option R) → Option R
def F24_ (N : Nat) (a1 : List (Int)) (a2 : List (Int)) {R : Type} (k0 : Bool → Option R) : Option R :=
  (bif ((a1.length : Int) != (a2.length : Int)) then k0 false else (L24_4 N N a1 a2 (a1.length : Int) 0 (fun e11 => k0 e11) (k0 true)))
def F24 (N : Nat) : TF24 := @F24_ N
def p_F24 (args : List (IV A)) : Bool := match args with | [.d (.sl 3 _), .d (.sl 3 _)] => true | _ => false
def SS_F24 (g : TF24) : Spec A := fun args _ k => match args with | [.d (.sl 3 a1), .d (.sl 3 a2)] => g a1 a2 (fun z0 => k (.d (.bool z0)) [.undef, .undef]) | _ => none
def S_F24 (N : Nat) : Spec A := SS_F24 (F24 N)
def sh_L24_4 : SSt := { fr := sparse .undef 26 [(0, .sl 3), (1, .sl 3), (12, .int .i64), (13, .int .i64)], st := sparse .none 0 [] }
def LP_L24_4 (N n : Nat) (ps : List (Pv A)) {R : Type} (K : Ex → St A → Option R) : Option R := match ps with | [.d (.sl 3 p0), .d (.sl 3 p1), .d (.int .i64 p2), .d (.int .i64 p3)] => L24_4 N n p0 p1 p2 p3 (fun z0 => K .ret { fr := sparse .undef 26 [(4, .d (.bool z0))], st := sparse none 0 [] }) (K (.exit 0) { fr := sparse .undef 26 [], st := sparse none 0 [] }) | _ => none
def LS_L24_4 (N n : Nat) : Piece A := fun S _ K => match decSt sh_L24_4 S with | some ps => LP_L24_4 N n ps K | none => none
noncomputable def code_24 : Code := (Tryz.f24.body).getD .skip
def C_F24_ : List (Nat × Spec A) := []
def C_F24 (N : Nat) : List (Nat × Spec A) := C_F24_
noncomputable def E_F24_ (N : Nat) : Env A := { P := Tryz.prog, T := T, C := fun f => (C_F24_).lookup f, tg := fun d => ([].lookup d).getD [], seqH := fun _ => none, loopH := fun i => [(4, ({ keep := [0, 1, 12, 13], canon := [], stay := [] } : Hint))].lookup i, exitH := fun i => [(4, ({ keep := [4], canon := [], stay := [] } : Hint))].lookup i, cutL := fun i => [(4, LS_L24_4 N N)].lookup i, mode := fun f i => [].contains (f, i), keyed := keyT, flat := flatT, pin := [] }
noncomputable def E_F24 (N : Nat) : Env A := E_F24_ N
theorem tg_F24 (N : Nat) (a1 : List (Int)) (a2 : List (Int)) (R : Type) (k : IV A → List (IV A) → Option R) : abody (E_F24_ N) Tryz.f24 code_24 0 [] [.asis] N [.d (.sl 3 a1), .d (.sl 3 a2)] k = SS_F24 (@F24_ N) [.d (.sl 3 a1), .d (.sl 3 a2)] k := by kernel_rfl
theorem t_F24 (N : Nat) (a1 : List (Int)) (a2 : List (Int)) (R : Type) (k : IV A → List (IV A) → Option R) : abody (E_F24 N) Tryz.f24 code_24 0 [] [.asis] N [.d (.sl 3 a1), .d (.sl 3 a2)] k = S_F24 N [.d (.sl 3 a1), .d (.sl 3 a2)] k := tg_F24 N a1 a2 R k
noncomputable def cb_L24_4 : Code := sub [1, 1, 0, 1, 0, 0] code_24
noncomputable def bd_L24_4 (N : Nat) : Piece A := around (fun S _ K => aexec (E_F24_ N) N cb_L24_4 S K) ((firstReg cb_L24_4).bind (E_F24_ N).loopH) ((firstReg cb_L24_4).bind (E_F24_ N).exitH)
theorem b_L24_4 (N n : Nat) (p0 : List (Int)) (p1 : List (Int)) (p2 : Int) (p3 : Int) (R : Type) (K : Ex → St A → Option R) : bd_L24_4 N { fr := sparse .undef 26 [(0, .d (.sl 3 p0)), (1, .d (.sl 3 p1)), (12, .d (.int .i64 p2)), (13, .d (.int .i64 p3))], st := sparse none 0 [] } (fun e S' => match e with | .normal => LS_L24_4 N n S' K | e => K e S') = LP_L24_4 N (n + 1) [.d (.sl 3 p0), .d (.sl 3 p1), .d (.int .i64 p2), .d (.int .i64 p3)] K := by kernel_rfl
theorem m_L24_4 (ps : List (Pv A)) : (∀ (N n : Nat) (R : Type) (K : Ex → St A → Option R), LP_L24_4 N n ps K = none) ∨ ∃ (p0 : List (Int)) (p1 : List (Int)) (p2 : Int) (p3 : Int), ps = [.d (.sl 3 p0), .d (.sl 3 p1), .d (.int .i64 p2), .d (.int .i64 p3)] := by
  by_cases h : ∃ (p0 : List (Int)) (p1 : List (Int)) (p2 : Int) (p3 : Int), ps = [.d (.sl 3 p0), .d (.sl 3 p1), .d (.int .i64 p2), .d (.int .i64 p3)]
  · exact .inr h
  · refine .inl (fun N n R K => ?_)
    unfold LP_L24_4
    split
    · exact absurd ⟨_, _, _, _, rfl⟩ h
    · rfl
theorem s_L24_4 (N n : Nat) (S : St A) : (∀ (R : Type) (K : Ex → St A → Option R), LS_L24_4 N (n + 1) S K = none) ∨ ∀ (R : Type) (K : Ex → St A → Option R), LS_L24_4 N (n + 1) S K = bd_L24_4 N S (fun e S' => match e with | .normal => LS_L24_4 N n S' K | e => K e S') := by
  cases hd : decSt sh_L24_4 S with
  | none => exact .inl (fun R K => by unfold LS_L24_4; rw [hd])
  | some ps =>
    have he := decSt_enc hd
    rcases m_L24_4 ps with h | ⟨p0, p1, p2, p3, rfl⟩
    · exact .inl (fun R K => by unfold LS_L24_4; rw [hd]; exact h N (n + 1) R K)
    · have hS : encSt (A := A) sh_L24_4 [.d (.sl 3 p0), .d (.sl 3 p1), .d (.int .i64 p2), .d (.int .i64 p3)] = some { fr := sparse .undef 26 [(0, .d (.sl 3 p0)), (1, .d (.sl 3 p1)), (12, .d (.int .i64 p2)), (13, .d (.int .i64 p3))], st := sparse none 0 [] } := by kernel_rfl
      rw [hS] at he
      obtain rfl := Option.some.inj he
      refine .inr (fun R K => ?_)
      rw [b_L24_4]
      unfold LS_L24_4
      rw [hd]
theorem z_L24_4 (N : Nat) (R : Type) (S : St A) (K : Ex → St A → Option R) : LS_L24_4 N 0 S K = none := by
  unfold LS_L24_4
  cases decSt sh_L24_4 S with
  | none => rfl
  | some ps =>
    simp only
    unfold LP_L24_4
    split <;> (try unfold L24_4) <;> rfl
theorem en_24 : Enters Tryz.prog 24 := enters_of (fn := Tryz.f24) (by kernel_rfl) (by kernel_rfl) (by kernel_rfl)
theorem en_F24 : Enters Tryz.prog 24 := en_24
theorem tl_F24 (N : Nat) : TabL Tryz.prog T (C_F24 N) := .nil
theorem nl_F24 (N : Nat) : NatL (C_F24 N) := .nil
theorem ct_F24 (N : Nat) : NatTab (E_F24 N).C := tab_nat (l := C_F24 N) (nl_F24 N)
theorem eo_F24 (N : Nat) : EnvOk (E_F24 N) := ⟨tyOk Tryz.prog, tab_sound (l := C_F24 N) (tl_F24 N), flatOk, keysOk⟩
theorem ll_L24_4 : loopsOf cb_L24_4 = [] := by kernel_rfl
theorem fi_L24_4 (N : Nat) : FineL (E_F24 N) N [] := .nil
theorem cc_L24_4 (N : Nat) : CutsOk (E_F24 N) N cb_L24_4 := cuts_of (fun _ => rfl) cb_L24_4 (by rw [ll_L24_4]; exact fi_L24_4 N)
theorem cg_L24_4 (N : Nat) : (firstReg cb_L24_4).bind (E_F24_ N).cutL = some (LS_L24_4 N N) := by kernel_rfl
theorem ce_L24_4 (N : Nat) : (firstReg cb_L24_4).bind (E_F24 N).cutL = some (LS_L24_4 N N) := cg_L24_4 N
theorem lf_L24_4 (N : Nat) : LoopFine (E_F24 N) N cb_L24_4 := fine_of (LS_L24_4 N) (ce_L24_4 N) (ct_F24 N) (cc_L24_4 N) (z_L24_4 N) (s_L24_4 N)
theorem ll_F24 : loopsOf code_24 = [cb_L24_4] := by kernel_rfl
theorem fi_F24 (N : Nat) : FineL (E_F24 N) N [cb_L24_4] := (.cons (lf_L24_4 N) .nil)
theorem cc_F24 (N : Nat) : CutsOk (E_F24 N) N code_24 := cuts_of (fun _ => rfl) code_24 (by rw [ll_F24]; exact fi_F24 N)
theorem v_F24 (args : List (IV A)) : (∀ (N : Nat) (R : Type) (k : IV A → List (IV A) → Option R), S_F24 N args k = none) ∨ ∃ (a1 : List (Int)) (a2 : List (Int)), args = [.d (.sl 3 a1), .d (.sl 3 a2)] := by
  by_cases h : ∃ (a1 : List (Int)) (a2 : List (Int)), args = [.d (.sl 3 a1), .d (.sl 3 a2)]
  · exact .inr h
  · refine .inl (fun N R k => ?_)
    unfold S_F24 SS_F24
    split
    · exact absurd ⟨_, _, rfl⟩ h
    · rfl
theorem sm_F24 (N : Nat) : Same (S_F24 N) (abody (E_F24 N) Tryz.f24 code_24 0 [] [.asis] N) := by
  intro args
  rcases v_F24 args with h | ⟨a1, a2, rfl⟩
  · exact .inl (h N)
  · exact .inr (fun R k => (t_F24 N a1 a2 R k).symm)
theorem fu_24 : Tryz.prog.funcs[24]? = some Tryz.f24 := by kernel_rfl
theorem bo_24 : Tryz.f24.body = some code_24 := by kernel_rfl
theorem fs_F24 (N : Nat) : FnSound Tryz.prog T 24 (S_F24 N) := fs_of (E_F24 N) rfl rfl (eo_F24 N) (ct_F24 N) mixed fu_24 bo_24 0 [] [.asis] N (cc_F24 N) (sm_F24 N)
theorem na_F24 (N : Nat) : NatSpec (S_F24 N) := na_of (E_F24 N) (ct_F24 N) Tryz.f24 code_24 0 [] [.asis] N (cc_F24 N) (sm_F24 N)
def L25_4 : Nat → Nat → List (G_Contact) → List (G_Contact) → Int → Int → {R : Type} → (Bool → Option R) → (Option R) → Option R
  | _, 0, _, _, _, _, _, _, _ => none
  | N, n + 1, v3, v4, v5, v6, _, e0, e1 => (bif (decide (v6 < v5)) then (bif (decide (0 ≤ v6)) then (match v3[(v6 : Int).toNat]? with | some x9 => (bif (decide (0 ≤ v6)) then (match v4[(v6 : Int).toNat]? with | some x10 => (bif (!((x9.f_At == x10.f_At) && ((x9.f_Mode == x10.f_Mode) && ((x9.f_Band == x10.f_Band) && ((x9.f_Call == x10.f_Call) && ((x9.f_Sent == x10.f_Sent) && ((x9.f_Heard == x10.f_Heard) && ((x9.f_Gave == x10.f_Gave) && ((x9.f_Got == x10.f_Got) && true))))))))) then e0 false else L25_4 N n v3 v4 v5 ((IntKind.i64.wrap (v6 + 1))) e0 e1) | none => none) else none) | none => none) else none) else e1)
abbrev TF25 : Type 1 := List (G_Contact) → List (G_Contact) → {R : Type} → (Bool → Option R) → Option R
def F25_ (N : Nat) (a1 : List (G_Contact)) (a2 : List (G_Contact)) {R : Type} (k0 : Bool → Option R) : Option R :=
  (bif ((a1.length : Int) != (a2.length : Int)) then k0 false else (L25_4 N N a1 a2 (a1.length : Int) 0 (fun e11 => k0 e11) (k0 true)))
def F25 (N : Nat) : TF25 := @F25_ N
def p_F25 (args : List (IV A)) : Bool := match args with | [.d (.sl 58 _), .d (.sl 58 _)] => true | _ => false
def SS_F25 (g : TF25) : Spec A := fun args _ k => match args with | [.d (.sl 58 a1), .d (.sl 58 a2)] => g a1 a2 (fun z0 => k (.d (.bool z0)) [.undef, .undef]) | _ => none
def S_F25 (N : Nat) : Spec A := SS_F25 (F25 N)
def sh_L25_4 : SSt := { fr := sparse .undef 26 [(0, .sl 58), (1, .sl 58), (12, .int .i64), (13, .int .i64)], st := sparse .none 0 [] }
def LP_L25_4 (N n : Nat) (ps : List (Pv A)) {R : Type} (K : Ex → St A → Option R) : Option R := match ps with | [.d (.sl 58 p0), .d (.sl 58 p1), .d (.int .i64 p2), .d (.int .i64 p3)] => L25_4 N n p0 p1 p2 p3 (fun z0 => K .ret { fr := sparse .undef 26 [(4, .d (.bool z0))], st := sparse none 0 [] }) (K (.exit 0) { fr := sparse .undef 26 [], st := sparse none 0 [] }) | _ => none
def LS_L25_4 (N n : Nat) : Piece A := fun S _ K => match decSt sh_L25_4 S with | some ps => LP_L25_4 N n ps K | none => none
noncomputable def code_25 : Code := (Tryz.f25.body).getD .skip
def C_F25_ : List (Nat × Spec A) := []
def C_F25 (N : Nat) : List (Nat × Spec A) := C_F25_
noncomputable def E_F25_ (N : Nat) : Env A := { P := Tryz.prog, T := T, C := fun f => (C_F25_).lookup f, tg := fun d => ([].lookup d).getD [], seqH := fun _ => none, loopH := fun i => [(4, ({ keep := [0, 1, 12, 13], canon := [], stay := [] } : Hint))].lookup i, exitH := fun i => [(4, ({ keep := [4], canon := [], stay := [] } : Hint))].lookup i, cutL := fun i => [(4, LS_L25_4 N N)].lookup i, mode := fun f i => [].contains (f, i), keyed := keyT, flat := flatT, pin := [] }
noncomputable def E_F25 (N : Nat) : Env A := E_F25_ N
theorem tg_F25 (N : Nat) (a1 : List (G_Contact)) (a2 : List (G_Contact)) (R : Type) (k : IV A → List (IV A) → Option R) : abody (E_F25_ N) Tryz.f25 code_25 0 [] [.asis] N [.d (.sl 58 a1), .d (.sl 58 a2)] k = SS_F25 (@F25_ N) [.d (.sl 58 a1), .d (.sl 58 a2)] k := by kernel_rfl
theorem t_F25 (N : Nat) (a1 : List (G_Contact)) (a2 : List (G_Contact)) (R : Type) (k : IV A → List (IV A) → Option R) : abody (E_F25 N) Tryz.f25 code_25 0 [] [.asis] N [.d (.sl 58 a1), .d (.sl 58 a2)] k = S_F25 N [.d (.sl 58 a1), .d (.sl 58 a2)] k := tg_F25 N a1 a2 R k
noncomputable def cb_L25_4 : Code := sub [1, 1, 0, 1, 0, 0] code_25
noncomputable def bd_L25_4 (N : Nat) : Piece A := around (fun S _ K => aexec (E_F25_ N) N cb_L25_4 S K) ((firstReg cb_L25_4).bind (E_F25_ N).loopH) ((firstReg cb_L25_4).bind (E_F25_ N).exitH)
theorem b_L25_4 (N n : Nat) (p0 : List (G_Contact)) (p1 : List (G_Contact)) (p2 : Int) (p3 : Int) (R : Type) (K : Ex → St A → Option R) : bd_L25_4 N { fr := sparse .undef 26 [(0, .d (.sl 58 p0)), (1, .d (.sl 58 p1)), (12, .d (.int .i64 p2)), (13, .d (.int .i64 p3))], st := sparse none 0 [] } (fun e S' => match e with | .normal => LS_L25_4 N n S' K | e => K e S') = LP_L25_4 N (n + 1) [.d (.sl 58 p0), .d (.sl 58 p1), .d (.int .i64 p2), .d (.int .i64 p3)] K := by kernel_rfl
theorem m_L25_4 (ps : List (Pv A)) : (∀ (N n : Nat) (R : Type) (K : Ex → St A → Option R), LP_L25_4 N n ps K = none) ∨ ∃ (p0 : List (G_Contact)) (p1 : List (G_Contact)) (p2 : Int) (p3 : Int), ps = [.d (.sl 58 p0), .d (.sl 58 p1), .d (.int .i64 p2), .d (.int .i64 p3)] := by
  by_cases h : ∃ (p0 : List (G_Contact)) (p1 : List (G_Contact)) (p2 : Int) (p3 : Int), ps = [.d (.sl 58 p0), .d (.sl 58 p1), .d (.int .i64 p2), .d (.int .i64 p3)]
  · exact .inr h
  · refine .inl (fun N n R K => ?_)
    unfold LP_L25_4
    split
    · exact absurd ⟨_, _, _, _, rfl⟩ h
    · rfl
theorem s_L25_4 (N n : Nat) (S : St A) : (∀ (R : Type) (K : Ex → St A → Option R), LS_L25_4 N (n + 1) S K = none) ∨ ∀ (R : Type) (K : Ex → St A → Option R), LS_L25_4 N (n + 1) S K = bd_L25_4 N S (fun e S' => match e with | .normal => LS_L25_4 N n S' K | e => K e S') := by
  cases hd : decSt sh_L25_4 S with
  | none => exact .inl (fun R K => by unfold LS_L25_4; rw [hd])
  | some ps =>
    have he := decSt_enc hd
    rcases m_L25_4 ps with h | ⟨p0, p1, p2, p3, rfl⟩
    · exact .inl (fun R K => by unfold LS_L25_4; rw [hd]; exact h N (n + 1) R K)
    · have hS : encSt (A := A) sh_L25_4 [.d (.sl 58 p0), .d (.sl 58 p1), .d (.int .i64 p2), .d (.int .i64 p3)] = some { fr := sparse .undef 26 [(0, .d (.sl 58 p0)), (1, .d (.sl 58 p1)), (12, .d (.int .i64 p2)), (13, .d (.int .i64 p3))], st := sparse none 0 [] } := by kernel_rfl
      rw [hS] at he
      obtain rfl := Option.some.inj he
      refine .inr (fun R K => ?_)
      rw [b_L25_4]
      unfold LS_L25_4
      rw [hd]
theorem z_L25_4 (N : Nat) (R : Type) (S : St A) (K : Ex → St A → Option R) : LS_L25_4 N 0 S K = none := by
  unfold LS_L25_4
  cases decSt sh_L25_4 S with
  | none => rfl
  | some ps =>
    simp only
    unfold LP_L25_4
    split <;> (try unfold L25_4) <;> rfl
theorem en_25 : Enters Tryz.prog 25 := enters_of (fn := Tryz.f25) (by kernel_rfl) (by kernel_rfl) (by kernel_rfl)
theorem en_F25 : Enters Tryz.prog 25 := en_25
theorem tl_F25 (N : Nat) : TabL Tryz.prog T (C_F25 N) := .nil
theorem nl_F25 (N : Nat) : NatL (C_F25 N) := .nil
theorem ct_F25 (N : Nat) : NatTab (E_F25 N).C := tab_nat (l := C_F25 N) (nl_F25 N)
theorem eo_F25 (N : Nat) : EnvOk (E_F25 N) := ⟨tyOk Tryz.prog, tab_sound (l := C_F25 N) (tl_F25 N), flatOk, keysOk⟩
theorem ll_L25_4 : loopsOf cb_L25_4 = [] := by kernel_rfl
theorem fi_L25_4 (N : Nat) : FineL (E_F25 N) N [] := .nil
theorem cc_L25_4 (N : Nat) : CutsOk (E_F25 N) N cb_L25_4 := cuts_of (fun _ => rfl) cb_L25_4 (by rw [ll_L25_4]; exact fi_L25_4 N)
theorem cg_L25_4 (N : Nat) : (firstReg cb_L25_4).bind (E_F25_ N).cutL = some (LS_L25_4 N N) := by kernel_rfl
theorem ce_L25_4 (N : Nat) : (firstReg cb_L25_4).bind (E_F25 N).cutL = some (LS_L25_4 N N) := cg_L25_4 N
theorem lf_L25_4 (N : Nat) : LoopFine (E_F25 N) N cb_L25_4 := fine_of (LS_L25_4 N) (ce_L25_4 N) (ct_F25 N) (cc_L25_4 N) (z_L25_4 N) (s_L25_4 N)
theorem ll_F25 : loopsOf code_25 = [cb_L25_4] := by kernel_rfl
theorem fi_F25 (N : Nat) : FineL (E_F25 N) N [cb_L25_4] := (.cons (lf_L25_4 N) .nil)
theorem cc_F25 (N : Nat) : CutsOk (E_F25 N) N code_25 := cuts_of (fun _ => rfl) code_25 (by rw [ll_F25]; exact fi_F25 N)
theorem v_F25 (args : List (IV A)) : (∀ (N : Nat) (R : Type) (k : IV A → List (IV A) → Option R), S_F25 N args k = none) ∨ ∃ (a1 : List (G_Contact)) (a2 : List (G_Contact)), args = [.d (.sl 58 a1), .d (.sl 58 a2)] := by
  by_cases h : ∃ (a1 : List (G_Contact)) (a2 : List (G_Contact)), args = [.d (.sl 58 a1), .d (.sl 58 a2)]
  · exact .inr h
  · refine .inl (fun N R k => ?_)
    unfold S_F25 SS_F25
    split
    · exact absurd ⟨_, _, rfl⟩ h
    · rfl
theorem sm_F25 (N : Nat) : Same (S_F25 N) (abody (E_F25 N) Tryz.f25 code_25 0 [] [.asis] N) := by
  intro args
  rcases v_F25 args with h | ⟨a1, a2, rfl⟩
  · exact .inl (h N)
  · exact .inr (fun R k => (t_F25 N a1 a2 R k).symm)
theorem fu_25 : Tryz.prog.funcs[25]? = some Tryz.f25 := by kernel_rfl
theorem bo_25 : Tryz.f25.body = some code_25 := by kernel_rfl
theorem fs_F25 (N : Nat) : FnSound Tryz.prog T 25 (S_F25 N) := fs_of (E_F25 N) rfl rfl (eo_F25 N) (ct_F25 N) mixed fu_25 bo_25 0 [] [.asis] N (cc_F25 N) (sm_F25 N)
theorem na_F25 (N : Nat) : NatSpec (S_F25 N) := na_of (E_F25 N) (ct_F25 N) Tryz.f25 code_25 0 [] [.asis] N (cc_F25 N) (sm_F25 N)
def L26_4 : Nat → Nat → List (G_Window) → List (G_Window) → Int → Int → {R : Type} → (Bool → Option R) → (Option R) → Option R
  | _, 0, _, _, _, _, _, _, _ => none
  | N, n + 1, v3, v4, v5, v6, _, e0, e1 => (bif (decide (v6 < v5)) then (bif (decide (0 ≤ v6)) then (match v3[(v6 : Int).toNat]? with | some x9 => (bif (decide (0 ≤ v6)) then (match v4[(v6 : Int).toNat]? with | some x10 => (bif (!((x9.f_From == x10.f_From) && ((x9.f_To == x10.f_To) && true))) then e0 false else L26_4 N n v3 v4 v5 ((IntKind.i64.wrap (v6 + 1))) e0 e1) | none => none) else none) | none => none) else none) else e1)
abbrev TF26 : Type 1 := List (G_Window) → List (G_Window) → {R : Type} → (Bool → Option R) → Option R
def F26_ (N : Nat) (a1 : List (G_Window)) (a2 : List (G_Window)) {R : Type} (k0 : Bool → Option R) : Option R :=
  (bif ((a1.length : Int) != (a2.length : Int)) then k0 false else (L26_4 N N a1 a2 (a1.length : Int) 0 (fun e11 => k0 e11) (k0 true)))
def F26 (N : Nat) : TF26 := @F26_ N
def p_F26 (args : List (IV A)) : Bool := match args with | [.d (.sl 31 _), .d (.sl 31 _)] => true | _ => false
def SS_F26 (g : TF26) : Spec A := fun args _ k => match args with | [.d (.sl 31 a1), .d (.sl 31 a2)] => g a1 a2 (fun z0 => k (.d (.bool z0)) [.undef, .undef]) | _ => none
def S_F26 (N : Nat) : Spec A := SS_F26 (F26 N)
def sh_L26_4 : SSt := { fr := sparse .undef 26 [(0, .sl 31), (1, .sl 31), (12, .int .i64), (13, .int .i64)], st := sparse .none 0 [] }
def LP_L26_4 (N n : Nat) (ps : List (Pv A)) {R : Type} (K : Ex → St A → Option R) : Option R := match ps with | [.d (.sl 31 p0), .d (.sl 31 p1), .d (.int .i64 p2), .d (.int .i64 p3)] => L26_4 N n p0 p1 p2 p3 (fun z0 => K .ret { fr := sparse .undef 26 [(4, .d (.bool z0))], st := sparse none 0 [] }) (K (.exit 0) { fr := sparse .undef 26 [], st := sparse none 0 [] }) | _ => none
def LS_L26_4 (N n : Nat) : Piece A := fun S _ K => match decSt sh_L26_4 S with | some ps => LP_L26_4 N n ps K | none => none
noncomputable def code_26 : Code := (Tryz.f26.body).getD .skip
def C_F26_ : List (Nat × Spec A) := []
def C_F26 (N : Nat) : List (Nat × Spec A) := C_F26_
noncomputable def E_F26_ (N : Nat) : Env A := { P := Tryz.prog, T := T, C := fun f => (C_F26_).lookup f, tg := fun d => ([].lookup d).getD [], seqH := fun _ => none, loopH := fun i => [(4, ({ keep := [0, 1, 12, 13], canon := [], stay := [] } : Hint))].lookup i, exitH := fun i => [(4, ({ keep := [4], canon := [], stay := [] } : Hint))].lookup i, cutL := fun i => [(4, LS_L26_4 N N)].lookup i, mode := fun f i => [].contains (f, i), keyed := keyT, flat := flatT, pin := [] }
noncomputable def E_F26 (N : Nat) : Env A := E_F26_ N
theorem tg_F26 (N : Nat) (a1 : List (G_Window)) (a2 : List (G_Window)) (R : Type) (k : IV A → List (IV A) → Option R) : abody (E_F26_ N) Tryz.f26 code_26 0 [] [.asis] N [.d (.sl 31 a1), .d (.sl 31 a2)] k = SS_F26 (@F26_ N) [.d (.sl 31 a1), .d (.sl 31 a2)] k := by kernel_rfl
theorem t_F26 (N : Nat) (a1 : List (G_Window)) (a2 : List (G_Window)) (R : Type) (k : IV A → List (IV A) → Option R) : abody (E_F26 N) Tryz.f26 code_26 0 [] [.asis] N [.d (.sl 31 a1), .d (.sl 31 a2)] k = S_F26 N [.d (.sl 31 a1), .d (.sl 31 a2)] k := tg_F26 N a1 a2 R k
noncomputable def cb_L26_4 : Code := sub [1, 1, 0, 1, 0, 0] code_26
noncomputable def bd_L26_4 (N : Nat) : Piece A := around (fun S _ K => aexec (E_F26_ N) N cb_L26_4 S K) ((firstReg cb_L26_4).bind (E_F26_ N).loopH) ((firstReg cb_L26_4).bind (E_F26_ N).exitH)
theorem b_L26_4 (N n : Nat) (p0 : List (G_Window)) (p1 : List (G_Window)) (p2 : Int) (p3 : Int) (R : Type) (K : Ex → St A → Option R) : bd_L26_4 N { fr := sparse .undef 26 [(0, .d (.sl 31 p0)), (1, .d (.sl 31 p1)), (12, .d (.int .i64 p2)), (13, .d (.int .i64 p3))], st := sparse none 0 [] } (fun e S' => match e with | .normal => LS_L26_4 N n S' K | e => K e S') = LP_L26_4 N (n + 1) [.d (.sl 31 p0), .d (.sl 31 p1), .d (.int .i64 p2), .d (.int .i64 p3)] K := by kernel_rfl
theorem m_L26_4 (ps : List (Pv A)) : (∀ (N n : Nat) (R : Type) (K : Ex → St A → Option R), LP_L26_4 N n ps K = none) ∨ ∃ (p0 : List (G_Window)) (p1 : List (G_Window)) (p2 : Int) (p3 : Int), ps = [.d (.sl 31 p0), .d (.sl 31 p1), .d (.int .i64 p2), .d (.int .i64 p3)] := by
  by_cases h : ∃ (p0 : List (G_Window)) (p1 : List (G_Window)) (p2 : Int) (p3 : Int), ps = [.d (.sl 31 p0), .d (.sl 31 p1), .d (.int .i64 p2), .d (.int .i64 p3)]
  · exact .inr h
  · refine .inl (fun N n R K => ?_)
    unfold LP_L26_4
    split
    · exact absurd ⟨_, _, _, _, rfl⟩ h
    · rfl
theorem s_L26_4 (N n : Nat) (S : St A) : (∀ (R : Type) (K : Ex → St A → Option R), LS_L26_4 N (n + 1) S K = none) ∨ ∀ (R : Type) (K : Ex → St A → Option R), LS_L26_4 N (n + 1) S K = bd_L26_4 N S (fun e S' => match e with | .normal => LS_L26_4 N n S' K | e => K e S') := by
  cases hd : decSt sh_L26_4 S with
  | none => exact .inl (fun R K => by unfold LS_L26_4; rw [hd])
  | some ps =>
    have he := decSt_enc hd
    rcases m_L26_4 ps with h | ⟨p0, p1, p2, p3, rfl⟩
    · exact .inl (fun R K => by unfold LS_L26_4; rw [hd]; exact h N (n + 1) R K)
    · have hS : encSt (A := A) sh_L26_4 [.d (.sl 31 p0), .d (.sl 31 p1), .d (.int .i64 p2), .d (.int .i64 p3)] = some { fr := sparse .undef 26 [(0, .d (.sl 31 p0)), (1, .d (.sl 31 p1)), (12, .d (.int .i64 p2)), (13, .d (.int .i64 p3))], st := sparse none 0 [] } := by kernel_rfl
      rw [hS] at he
      obtain rfl := Option.some.inj he
      refine .inr (fun R K => ?_)
      rw [b_L26_4]
      unfold LS_L26_4
      rw [hd]
theorem z_L26_4 (N : Nat) (R : Type) (S : St A) (K : Ex → St A → Option R) : LS_L26_4 N 0 S K = none := by
  unfold LS_L26_4
  cases decSt sh_L26_4 S with
  | none => rfl
  | some ps =>
    simp only
    unfold LP_L26_4
    split <;> (try unfold L26_4) <;> rfl
theorem en_26 : Enters Tryz.prog 26 := enters_of (fn := Tryz.f26) (by kernel_rfl) (by kernel_rfl) (by kernel_rfl)
theorem en_F26 : Enters Tryz.prog 26 := en_26
theorem tl_F26 (N : Nat) : TabL Tryz.prog T (C_F26 N) := .nil
theorem nl_F26 (N : Nat) : NatL (C_F26 N) := .nil
theorem ct_F26 (N : Nat) : NatTab (E_F26 N).C := tab_nat (l := C_F26 N) (nl_F26 N)
theorem eo_F26 (N : Nat) : EnvOk (E_F26 N) := ⟨tyOk Tryz.prog, tab_sound (l := C_F26 N) (tl_F26 N), flatOk, keysOk⟩
theorem ll_L26_4 : loopsOf cb_L26_4 = [] := by kernel_rfl
theorem fi_L26_4 (N : Nat) : FineL (E_F26 N) N [] := .nil
theorem cc_L26_4 (N : Nat) : CutsOk (E_F26 N) N cb_L26_4 := cuts_of (fun _ => rfl) cb_L26_4 (by rw [ll_L26_4]; exact fi_L26_4 N)
theorem cg_L26_4 (N : Nat) : (firstReg cb_L26_4).bind (E_F26_ N).cutL = some (LS_L26_4 N N) := by kernel_rfl
theorem ce_L26_4 (N : Nat) : (firstReg cb_L26_4).bind (E_F26 N).cutL = some (LS_L26_4 N N) := cg_L26_4 N
theorem lf_L26_4 (N : Nat) : LoopFine (E_F26 N) N cb_L26_4 := fine_of (LS_L26_4 N) (ce_L26_4 N) (ct_F26 N) (cc_L26_4 N) (z_L26_4 N) (s_L26_4 N)
theorem ll_F26 : loopsOf code_26 = [cb_L26_4] := by kernel_rfl
theorem fi_F26 (N : Nat) : FineL (E_F26 N) N [cb_L26_4] := (.cons (lf_L26_4 N) .nil)
theorem cc_F26 (N : Nat) : CutsOk (E_F26 N) N code_26 := cuts_of (fun _ => rfl) code_26 (by rw [ll_F26]; exact fi_F26 N)
theorem v_F26 (args : List (IV A)) : (∀ (N : Nat) (R : Type) (k : IV A → List (IV A) → Option R), S_F26 N args k = none) ∨ ∃ (a1 : List (G_Window)) (a2 : List (G_Window)), args = [.d (.sl 31 a1), .d (.sl 31 a2)] := by
  by_cases h : ∃ (a1 : List (G_Window)) (a2 : List (G_Window)), args = [.d (.sl 31 a1), .d (.sl 31 a2)]
  · exact .inr h
  · refine .inl (fun N R k => ?_)
    unfold S_F26 SS_F26
    split
    · exact absurd ⟨_, _, rfl⟩ h
    · rfl
theorem sm_F26 (N : Nat) : Same (S_F26 N) (abody (E_F26 N) Tryz.f26 code_26 0 [] [.asis] N) := by
  intro args
  rcases v_F26 args with h | ⟨a1, a2, rfl⟩
  · exact .inl (h N)
  · exact .inr (fun R k => (t_F26 N a1 a2 R k).symm)
theorem fu_26 : Tryz.prog.funcs[26]? = some Tryz.f26 := by kernel_rfl
theorem bo_26 : Tryz.f26.body = some code_26 := by kernel_rfl
theorem fs_F26 (N : Nat) : FnSound Tryz.prog T 26 (S_F26 N) := fs_of (E_F26 N) rfl rfl (eo_F26 N) (ct_F26 N) mixed fu_26 bo_26 0 [] [.asis] N (cc_F26 N) (sm_F26 N)
theorem na_F26 (N : Nat) : NatSpec (S_F26 N) := na_of (E_F26 N) (ct_F26 N) Tryz.f26 code_26 0 [] [.asis] N (cc_F26 N) (sm_F26 N)
abbrev TF27 : Type 1 := {R : Type} → (Bool → Option R) → Option R
def F27_ (g11 : TF11) (g24 : TF24) (N : Nat)  {R : Type} (k0 : Bool → Option R) : Option R :=
  (g11 ([(⟨0, 1, [98], [107, 49, 97, 98], 0, 0, [], []⟩ : G_Contact), (⟨5, 1, [98], [107, 49, 97, 98], 0, 0, [], []⟩ : G_Contact)]) (fun r1 r2 => (bif (r2 == 0) then (g24 r1 [1] (fun r3 => k0 r3)) else k0 false)))
def F27 (N : Nat) : TF27 := @F27_ (@F11 N) (@F24 N) N
def p_F27 (args : List (IV A)) : Bool := match args with | [] => true | _ => false
def SS_F27 (g : TF27) : Spec A := fun args _ k => match args with | [] => g (fun z0 => k (.d (.bool z0)) []) | _ => none
def S_F27 (N : Nat) : Spec A := SS_F27 (F27 N)
noncomputable def code_27 : Code := (Tryz.f27.body).getD .skip
def C_F27_ (g11 : TF11) (g24 : TF24) : List (Nat × Spec A) := [(11, SS_F11 g11), (24, SS_F24 g24)]
def C_F27 (N : Nat) : List (Nat × Spec A) := C_F27_ (@F11 N) (@F24 N)
noncomputable def E_F27_ (g11 : TF11) (g24 : TF24) (N : Nat) : Env A := { P := Tryz.prog, T := T, C := fun f => (C_F27_ g11 g24).lookup f, tg := fun d => ([(1, [0]), (2, [1]), (11, [2]), (12, [3]), (19, [4])].lookup d).getD [], seqH := fun _ => none, loopH := fun i => [].lookup i, exitH := fun i => [].lookup i, cutL := fun _ => none, mode := fun f i => [].contains (f, i), keyed := keyT, flat := flatT, pin := [] }
noncomputable def E_F27 (N : Nat) : Env A := E_F27_ (@F11 N) (@F24 N) N
theorem tg_F27 (g11 : TF11) (g24 : TF24) (N : Nat)  (R : Type) (k : IV A → List (IV A) → Option R) : abody (E_F27_ g11 g24 N) Tryz.f27 code_27 5 [] [.asis] N [] k = SS_F27 (@F27_ g11 g24 N) [] k := by kernel_rfl
theorem t_F27 (N : Nat)  (R : Type) (k : IV A → List (IV A) → Option R) : abody (E_F27 N) Tryz.f27 code_27 5 [] [.asis] N [] k = S_F27 N [] k := tg_F27 (@F11 N) (@F24 N) N  R k
theorem en_27 : Enters Tryz.prog 27 := enters_of (fn := Tryz.f27) (by kernel_rfl) (by kernel_rfl) (by kernel_rfl)
theorem en_F27 : Enters Tryz.prog 27 := en_27
theorem tl_F27 (N : Nat) : TabL Tryz.prog T (C_F27 N) := (.cons (fs_F11 N) en_F11 (.cons (fs_F24 N) en_F24 .nil))
theorem nl_F27 (N : Nat) : NatL (C_F27 N) := (.cons (na_F11 N) (.cons (na_F24 N) .nil))
theorem ct_F27 (N : Nat) : NatTab (E_F27 N).C := tab_nat (l := C_F27 N) (nl_F27 N)
theorem eo_F27 (N : Nat) : EnvOk (E_F27 N) := ⟨tyOk Tryz.prog, tab_sound (l := C_F27 N) (tl_F27 N), flatOk, keysOk⟩
theorem ll_F27 : loopsOf code_27 = [] := by kernel_rfl
theorem fi_F27 (N : Nat) : FineL (E_F27 N) N [] := .nil
theorem cc_F27 (N : Nat) : CutsOk (E_F27 N) N code_27 := cuts_of (fun _ => rfl) code_27 (by rw [ll_F27]; exact fi_F27 N)
theorem v_F27 (args : List (IV A)) : (∀ (N : Nat) (R : Type) (k : IV A → List (IV A) → Option R), S_F27 N args k = none) ∨ args = [] := by
  by_cases h : args = []
  · exact .inr h
  · refine .inl (fun N R k => ?_)
    unfold S_F27 SS_F27
    split
    · exact absurd rfl h
    · rfl
theorem sm_F27 (N : Nat) : Same (S_F27 N) (abody (E_F27 N) Tryz.f27 code_27 5 [] [.asis] N) := by
  intro args
  rcases v_F27 args with h | rfl
  · exact .inl (h N)
  · exact .inr (fun R k => (t_F27 N  R k).symm)
theorem fu_27 : Tryz.prog.funcs[27]? = some Tryz.f27 := by kernel_rfl
theorem bo_27 : Tryz.f27.body = some code_27 := by kernel_rfl
theorem fs_F27 (N : Nat) : FnSound Tryz.prog T 27 (S_F27 N) := fs_of (E_F27 N) rfl rfl (eo_F27 N) (ct_F27 N) mixed fu_27 bo_27 5 [] [.asis] N (cc_F27 N) (sm_F27 N)
theorem na_F27 (N : Nat) : NatSpec (S_F27 N) := na_of (E_F27 N) (ct_F27 N) Tryz.f27 code_27 5 [] [.asis] N (cc_F27 N) (sm_F27 N)
def L24_1_4 : Nat → Nat → List (Int) → Int → Int → {R : Type} → (Option R) → Option R
  | _, 0, _, _, _, _, _ => none
  | N, n + 1, v2, v3, v4, _, e0 => (bif (decide (v4 < v3)) then (bif (decide (0 ≤ v4)) then (match v2[(v4 : Int).toNat]? with | some x6 => none | none => none) else none) else e0)
abbrev TF24_1 : Type 1 := List (Int) → {R : Type} → (Bool → Option R) → Option R
def F24_1_ (N : Nat) (a1 : List (Int)) {R : Type} (k0 : Bool → Option R) : Option R :=
  (bif ((a1.length : Int) != 0) then k0 false else (L24_1_4 N N a1 (a1.length : Int) 0 (k0 true)))
def F24_1 (N : Nat) : TF24_1 := @F24_1_ N
def p_F24_1 (args : List (IV A)) : Bool := match args with | [.d (.sl 3 _), .d .nsl] => true | _ => false
def SS_F24_1 (g : TF24_1) : Spec A := fun args _ k => match args with | [.d (.sl 3 a1), .d .nsl] => g a1 (fun z0 => k (.d (.bool z0)) [.undef, .undef]) | _ => none
def S_F24_1 (N : Nat) : Spec A := SS_F24_1 (F24_1 N)
def sh_L24_1_4 : SSt := { fr := sparse .undef 26 [(0, .sl 3), (1, .nsl), (12, .int .i64), (13, .int .i64)], st := sparse .none 0 [] }
def LP_L24_1_4 (N n : Nat) (ps : List (Pv A)) {R : Type} (K : Ex → St A → Option R) : Option R := match ps with | [.d (.sl 3 p0), .d (.int .i64 p1), .d (.int .i64 p2)] => L24_1_4 N n p0 p1 p2 (K (.exit 0) { fr := sparse .undef 26 [], st := sparse none 0 [] }) | _ => none
def LS_L24_1_4 (N n : Nat) : Piece A := fun S _ K => match decSt sh_L24_1_4 S with | some ps => LP_L24_1_4 N n ps K | none => none
def C_F24_1_ : List (Nat × Spec A) := []
def C_F24_1 (N : Nat) : List (Nat × Spec A) := C_F24_1_
noncomputable def E_F24_1_ (N : Nat) : Env A := { P := Tryz.prog, T := T, C := fun f => (C_F24_1_).lookup f, tg := fun d => ([].lookup d).getD [], seqH := fun _ => none, loopH := fun i => [(4, ({ keep := [0, 1, 12, 13], canon := [], stay := [] } : Hint))].lookup i, exitH := fun i => [(4, ({ keep := [], canon := [], stay := [] } : Hint))].lookup i, cutL := fun i => [(4, LS_L24_1_4 N N)].lookup i, mode := fun f i => [].contains (f, i), keyed := keyT, flat := flatT, pin := [] }
noncomputable def E_F24_1 (N : Nat) : Env A := E_F24_1_ N
theorem tg_F24_1 (N : Nat) (a1 : List (Int)) (R : Type) (k : IV A → List (IV A) → Option R) : abody (E_F24_1_ N) Tryz.f24 code_24 0 [] [.asis] N [.d (.sl 3 a1), .d .nsl] k = SS_F24_1 (@F24_1_ N) [.d (.sl 3 a1), .d .nsl] k := by kernel_rfl
theorem t_F24_1 (N : Nat) (a1 : List (Int)) (R : Type) (k : IV A → List (IV A) → Option R) : abody (E_F24_1 N) Tryz.f24 code_24 0 [] [.asis] N [.d (.sl 3 a1), .d .nsl] k = S_F24_1 N [.d (.sl 3 a1), .d .nsl] k := tg_F24_1 N a1 R k
noncomputable def cb_L24_1_4 : Code := sub [1, 1, 0, 1, 0, 0] code_24
noncomputable def bd_L24_1_4 (N : Nat) : Piece A := around (fun S _ K => aexec (E_F24_1_ N) N cb_L24_1_4 S K) ((firstReg cb_L24_1_4).bind (E_F24_1_ N).loopH) ((firstReg cb_L24_1_4).bind (E_F24_1_ N).exitH)
theorem b_L24_1_4 (N n : Nat) (p0 : List (Int)) (p1 : Int) (p2 : Int) (R : Type) (K : Ex → St A → Option R) : bd_L24_1_4 N { fr := sparse .undef 26 [(0, .d (.sl 3 p0)), (1, .d .nsl), (12, .d (.int .i64 p1)), (13, .d (.int .i64 p2))], st := sparse none 0 [] } (fun e S' => match e with | .normal => LS_L24_1_4 N n S' K | e => K e S') = LP_L24_1_4 N (n + 1) [.d (.sl 3 p0), .d (.int .i64 p1), .d (.int .i64 p2)] K := by kernel_rfl
theorem m_L24_1_4 (ps : List (Pv A)) : (∀ (N n : Nat) (R : Type) (K : Ex → St A → Option R), LP_L24_1_4 N n ps K = none) ∨ ∃ (p0 : List (Int)) (p1 : Int) (p2 : Int), ps = [.d (.sl 3 p0), .d (.int .i64 p1), .d (.int .i64 p2)] := by
  by_cases h : ∃ (p0 : List (Int)) (p1 : Int) (p2 : Int), ps = [.d (.sl 3 p0), .d (.int .i64 p1), .d (.int .i64 p2)]
  · exact .inr h
  · refine .inl (fun N n R K => ?_)
    unfold LP_L24_1_4
    split
    · exact absurd ⟨_, _, _, rfl⟩ h
    · rfl
theorem s_L24_1_4 (N n : Nat) (S : St A) : (∀ (R : Type) (K : Ex → St A → Option R), LS_L24_1_4 N (n + 1) S K = none) ∨ ∀ (R : Type) (K : Ex → St A → Option R), LS_L24_1_4 N (n + 1) S K = bd_L24_1_4 N S (fun e S' => match e with | .normal => LS_L24_1_4 N n S' K | e => K e S') := by
  cases hd : decSt sh_L24_1_4 S with
  | none => exact .inl (fun R K => by unfold LS_L24_1_4; rw [hd])
  | some ps =>
    have he := decSt_enc hd
    rcases m_L24_1_4 ps with h | ⟨p0, p1, p2, rfl⟩
    · exact .inl (fun R K => by unfold LS_L24_1_4; rw [hd]; exact h N (n + 1) R K)
    · have hS : encSt (A := A) sh_L24_1_4 [.d (.sl 3 p0), .d (.int .i64 p1), .d (.int .i64 p2)] = some { fr := sparse .undef 26 [(0, .d (.sl 3 p0)), (1, .d .nsl), (12, .d (.int .i64 p1)), (13, .d (.int .i64 p2))], st := sparse none 0 [] } := by kernel_rfl
      rw [hS] at he
      obtain rfl := Option.some.inj he
      refine .inr (fun R K => ?_)
      rw [b_L24_1_4]
      unfold LS_L24_1_4
      rw [hd]
theorem z_L24_1_4 (N : Nat) (R : Type) (S : St A) (K : Ex → St A → Option R) : LS_L24_1_4 N 0 S K = none := by
  unfold LS_L24_1_4
  cases decSt sh_L24_1_4 S with
  | none => rfl
  | some ps =>
    simp only
    unfold LP_L24_1_4
    split <;> (try unfold L24_1_4) <;> rfl
theorem en_F24_1 : Enters Tryz.prog 24 := en_24
theorem tl_F24_1 (N : Nat) : TabL Tryz.prog T (C_F24_1 N) := .nil
theorem nl_F24_1 (N : Nat) : NatL (C_F24_1 N) := .nil
theorem ct_F24_1 (N : Nat) : NatTab (E_F24_1 N).C := tab_nat (l := C_F24_1 N) (nl_F24_1 N)
theorem eo_F24_1 (N : Nat) : EnvOk (E_F24_1 N) := ⟨tyOk Tryz.prog, tab_sound (l := C_F24_1 N) (tl_F24_1 N), flatOk, keysOk⟩
theorem ll_L24_1_4 : loopsOf cb_L24_1_4 = [] := by kernel_rfl
theorem fi_L24_1_4 (N : Nat) : FineL (E_F24_1 N) N [] := .nil
theorem cc_L24_1_4 (N : Nat) : CutsOk (E_F24_1 N) N cb_L24_1_4 := cuts_of (fun _ => rfl) cb_L24_1_4 (by rw [ll_L24_1_4]; exact fi_L24_1_4 N)
theorem cg_L24_1_4 (N : Nat) : (firstReg cb_L24_1_4).bind (E_F24_1_ N).cutL = some (LS_L24_1_4 N N) := by kernel_rfl
theorem ce_L24_1_4 (N : Nat) : (firstReg cb_L24_1_4).bind (E_F24_1 N).cutL = some (LS_L24_1_4 N N) := cg_L24_1_4 N
theorem lf_L24_1_4 (N : Nat) : LoopFine (E_F24_1 N) N cb_L24_1_4 := fine_of (LS_L24_1_4 N) (ce_L24_1_4 N) (ct_F24_1 N) (cc_L24_1_4 N) (z_L24_1_4 N) (s_L24_1_4 N)
theorem ll_F24_1 : loopsOf code_24 = [cb_L24_1_4] := by kernel_rfl
theorem fi_F24_1 (N : Nat) : FineL (E_F24_1 N) N [cb_L24_1_4] := (.cons (lf_L24_1_4 N) .nil)
theorem cc_F24_1 (N : Nat) : CutsOk (E_F24_1 N) N code_24 := cuts_of (fun _ => rfl) code_24 (by rw [ll_F24_1]; exact fi_F24_1 N)
theorem v_F24_1 (args : List (IV A)) : (∀ (N : Nat) (R : Type) (k : IV A → List (IV A) → Option R), S_F24_1 N args k = none) ∨ ∃ (a1 : List (Int)), args = [.d (.sl 3 a1), .d .nsl] := by
  by_cases h : ∃ (a1 : List (Int)), args = [.d (.sl 3 a1), .d .nsl]
  · exact .inr h
  · refine .inl (fun N R k => ?_)
    unfold S_F24_1 SS_F24_1
    split
    · exact absurd ⟨_, rfl⟩ h
    · rfl
theorem sm_F24_1 (N : Nat) : Same (S_F24_1 N) (abody (E_F24_1 N) Tryz.f24 code_24 0 [] [.asis] N) := by
  intro args
  rcases v_F24_1 args with h | ⟨a1, rfl⟩
  · exact .inl (h N)
  · exact .inr (fun R k => (t_F24_1 N a1 R k).symm)
theorem fs_F24_1 (N : Nat) : FnSound Tryz.prog T 24 (S_F24_1 N) := fs_of (E_F24_1 N) rfl rfl (eo_F24_1 N) (ct_F24_1 N) mixed fu_24 bo_24 0 [] [.asis] N (cc_F24_1 N) (sm_F24_1 N)
theorem na_F24_1 (N : Nat) : NatSpec (S_F24_1 N) := na_of (E_F24_1 N) (ct_F24_1 N) Tryz.f24 code_24 0 [] [.asis] N (cc_F24_1 N) (sm_F24_1 N)
def L26_1_4 : Nat → Nat → List (G_Window) → Int → Int → {R : Type} → (Option R) → Option R
  | _, 0, _, _, _, _, _ => none
  | N, n + 1, v2, v3, v4, _, e0 => (bif (decide (v4 < v3)) then (bif (decide (0 ≤ v4)) then (match v2[(v4 : Int).toNat]? with | some x6 => none | none => none) else none) else e0)
abbrev TF26_1 : Type 1 := List (G_Window) → {R : Type} → (Bool → Option R) → Option R
def F26_1_ (N : Nat) (a1 : List (G_Window)) {R : Type} (k0 : Bool → Option R) : Option R :=
  (bif ((a1.length : Int) != 0) then k0 false else (L26_1_4 N N a1 (a1.length : Int) 0 (k0 true)))
def F26_1 (N : Nat) : TF26_1 := @F26_1_ N
def p_F26_1 (args : List (IV A)) : Bool := match args with | [.d (.sl 31 _), .d .nsl] => true | _ => false
def SS_F26_1 (g : TF26_1) : Spec A := fun args _ k => match args with | [.d (.sl 31 a1), .d .nsl] => g a1 (fun z0 => k (.d (.bool z0)) [.undef, .undef]) | _ => none
def S_F26_1 (N : Nat) : Spec A := SS_F26_1 (F26_1 N)
def sh_L26_1_4 : SSt := { fr := sparse .undef 26 [(0, .sl 31), (1, .nsl), (12, .int .i64), (13, .int .i64)], st := sparse .none 0 [] }
def LP_L26_1_4 (N n : Nat) (ps : List (Pv A)) {R : Type} (K : Ex → St A → Option R) : Option R := match ps with | [.d (.sl 31 p0), .d (.int .i64 p1), .d (.int .i64 p2)] => L26_1_4 N n p0 p1 p2 (K (.exit 0) { fr := sparse .undef 26 [], st := sparse none 0 [] }) | _ => none
def LS_L26_1_4 (N n : Nat) : Piece A := fun S _ K => match decSt sh_L26_1_4 S with | some ps => LP_L26_1_4 N n ps K | none => none
def C_F26_1_ : List (Nat × Spec A) := []
def C_F26_1 (N : Nat) : List (Nat × Spec A) := C_F26_1_
noncomputable def E_F26_1_ (N : Nat) : Env A := { P := Tryz.prog, T := T, C := fun f => (C_F26_1_).lookup f, tg := fun d => ([].lookup d).getD [], seqH := fun _ => none, loopH := fun i => [(4, ({ keep := [0, 1, 12, 13], canon := [], stay := [] } : Hint))].lookup i, exitH := fun i => [(4, ({ keep := [], canon := [], stay := [] } : Hint))].lookup i, cutL := fun i => [(4, LS_L26_1_4 N N)].lookup i, mode := fun f i => [].contains (f, i), keyed := keyT, flat := flatT, pin := [] }
noncomputable def E_F26_1 (N : Nat) : Env A := E_F26_1_ N
theorem tg_F26_1 (N : Nat) (a1 : List (G_Window)) (R : Type) (k : IV A → List (IV A) → Option R) : abody (E_F26_1_ N) Tryz.f26 code_26 0 [] [.asis] N [.d (.sl 31 a1), .d .nsl] k = SS_F26_1 (@F26_1_ N) [.d (.sl 31 a1), .d .nsl] k := by kernel_rfl
theorem t_F26_1 (N : Nat) (a1 : List (G_Window)) (R : Type) (k : IV A → List (IV A) → Option R) : abody (E_F26_1 N) Tryz.f26 code_26 0 [] [.asis] N [.d (.sl 31 a1), .d .nsl] k = S_F26_1 N [.d (.sl 31 a1), .d .nsl] k := tg_F26_1 N a1 R k
noncomputable def cb_L26_1_4 : Code := sub [1, 1, 0, 1, 0, 0] code_26
noncomputable def bd_L26_1_4 (N : Nat) : Piece A := around (fun S _ K => aexec (E_F26_1_ N) N cb_L26_1_4 S K) ((firstReg cb_L26_1_4).bind (E_F26_1_ N).loopH) ((firstReg cb_L26_1_4).bind (E_F26_1_ N).exitH)
theorem b_L26_1_4 (N n : Nat) (p0 : List (G_Window)) (p1 : Int) (p2 : Int) (R : Type) (K : Ex → St A → Option R) : bd_L26_1_4 N { fr := sparse .undef 26 [(0, .d (.sl 31 p0)), (1, .d .nsl), (12, .d (.int .i64 p1)), (13, .d (.int .i64 p2))], st := sparse none 0 [] } (fun e S' => match e with | .normal => LS_L26_1_4 N n S' K | e => K e S') = LP_L26_1_4 N (n + 1) [.d (.sl 31 p0), .d (.int .i64 p1), .d (.int .i64 p2)] K := by kernel_rfl
theorem m_L26_1_4 (ps : List (Pv A)) : (∀ (N n : Nat) (R : Type) (K : Ex → St A → Option R), LP_L26_1_4 N n ps K = none) ∨ ∃ (p0 : List (G_Window)) (p1 : Int) (p2 : Int), ps = [.d (.sl 31 p0), .d (.int .i64 p1), .d (.int .i64 p2)] := by
  by_cases h : ∃ (p0 : List (G_Window)) (p1 : Int) (p2 : Int), ps = [.d (.sl 31 p0), .d (.int .i64 p1), .d (.int .i64 p2)]
  · exact .inr h
  · refine .inl (fun N n R K => ?_)
    unfold LP_L26_1_4
    split
    · exact absurd ⟨_, _, _, rfl⟩ h
    · rfl
theorem s_L26_1_4 (N n : Nat) (S : St A) : (∀ (R : Type) (K : Ex → St A → Option R), LS_L26_1_4 N (n + 1) S K = none) ∨ ∀ (R : Type) (K : Ex → St A → Option R), LS_L26_1_4 N (n + 1) S K = bd_L26_1_4 N S (fun e S' => match e with | .normal => LS_L26_1_4 N n S' K | e => K e S') := by
  cases hd : decSt sh_L26_1_4 S with
  | none => exact .inl (fun R K => by unfold LS_L26_1_4; rw [hd])
  | some ps =>
    have he := decSt_enc hd
    rcases m_L26_1_4 ps with h | ⟨p0, p1, p2, rfl⟩
    · exact .inl (fun R K => by unfold LS_L26_1_4; rw [hd]; exact h N (n + 1) R K)
    · have hS : encSt (A := A) sh_L26_1_4 [.d (.sl 31 p0), .d (.int .i64 p1), .d (.int .i64 p2)] = some { fr := sparse .undef 26 [(0, .d (.sl 31 p0)), (1, .d .nsl), (12, .d (.int .i64 p1)), (13, .d (.int .i64 p2))], st := sparse none 0 [] } := by kernel_rfl
      rw [hS] at he
      obtain rfl := Option.some.inj he
      refine .inr (fun R K => ?_)
      rw [b_L26_1_4]
      unfold LS_L26_1_4
      rw [hd]
theorem z_L26_1_4 (N : Nat) (R : Type) (S : St A) (K : Ex → St A → Option R) : LS_L26_1_4 N 0 S K = none := by
  unfold LS_L26_1_4
  cases decSt sh_L26_1_4 S with
  | none => rfl
  | some ps =>
    simp only
    unfold LP_L26_1_4
    split <;> (try unfold L26_1_4) <;> rfl
theorem en_F26_1 : Enters Tryz.prog 26 := en_26
theorem tl_F26_1 (N : Nat) : TabL Tryz.prog T (C_F26_1 N) := .nil
theorem nl_F26_1 (N : Nat) : NatL (C_F26_1 N) := .nil
theorem ct_F26_1 (N : Nat) : NatTab (E_F26_1 N).C := tab_nat (l := C_F26_1 N) (nl_F26_1 N)
theorem eo_F26_1 (N : Nat) : EnvOk (E_F26_1 N) := ⟨tyOk Tryz.prog, tab_sound (l := C_F26_1 N) (tl_F26_1 N), flatOk, keysOk⟩
theorem ll_L26_1_4 : loopsOf cb_L26_1_4 = [] := by kernel_rfl
theorem fi_L26_1_4 (N : Nat) : FineL (E_F26_1 N) N [] := .nil
theorem cc_L26_1_4 (N : Nat) : CutsOk (E_F26_1 N) N cb_L26_1_4 := cuts_of (fun _ => rfl) cb_L26_1_4 (by rw [ll_L26_1_4]; exact fi_L26_1_4 N)
theorem cg_L26_1_4 (N : Nat) : (firstReg cb_L26_1_4).bind (E_F26_1_ N).cutL = some (LS_L26_1_4 N N) := by kernel_rfl
theorem ce_L26_1_4 (N : Nat) : (firstReg cb_L26_1_4).bind (E_F26_1 N).cutL = some (LS_L26_1_4 N N) := cg_L26_1_4 N
theorem lf_L26_1_4 (N : Nat) : LoopFine (E_F26_1 N) N cb_L26_1_4 := fine_of (LS_L26_1_4 N) (ce_L26_1_4 N) (ct_F26_1 N) (cc_L26_1_4 N) (z_L26_1_4 N) (s_L26_1_4 N)
theorem ll_F26_1 : loopsOf code_26 = [cb_L26_1_4] := by kernel_rfl
theorem fi_F26_1 (N : Nat) : FineL (E_F26_1 N) N [cb_L26_1_4] := (.cons (lf_L26_1_4 N) .nil)
theorem cc_F26_1 (N : Nat) : CutsOk (E_F26_1 N) N code_26 := cuts_of (fun _ => rfl) code_26 (by rw [ll_F26_1]; exact fi_F26_1 N)
theorem v_F26_1 (args : List (IV A)) : (∀ (N : Nat) (R : Type) (k : IV A → List (IV A) → Option R), S_F26_1 N args k = none) ∨ ∃ (a1 : List (G_Window)), args = [.d (.sl 31 a1), .d .nsl] := by
  by_cases h : ∃ (a1 : List (G_Window)), args = [.d (.sl 31 a1), .d .nsl]
  · exact .inr h
  · refine .inl (fun N R k => ?_)
    unfold S_F26_1 SS_F26_1
    split
    · exact absurd ⟨_, rfl⟩ h
    · rfl
theorem sm_F26_1 (N : Nat) : Same (S_F26_1 N) (abody (E_F26_1 N) Tryz.f26 code_26 0 [] [.asis] N) := by
  intro args
  rcases v_F26_1 args with h | ⟨a1, rfl⟩
  · exact .inl (h N)
  · exact .inr (fun R k => (t_F26_1 N a1 R k).symm)
theorem fs_F26_1 (N : Nat) : FnSound Tryz.prog T 26 (S_F26_1 N) := fs_of (E_F26_1 N) rfl rfl (eo_F26_1 N) (ct_F26_1 N) mixed fu_26 bo_26 0 [] [.asis] N (cc_F26_1 N) (sm_F26_1 N)
theorem na_F26_1 (N : Nat) : NatSpec (S_F26_1 N) := na_of (E_F26_1 N) (ct_F26_1 N) Tryz.f26 code_26 0 [] [.asis] N (cc_F26_1 N) (sm_F26_1 N)
def L23_1_4 : Nat → Nat → List (G_Row) → Int → Int → {R : Type} → (Option R) → Option R
  | _, 0, _, _, _, _, _ => none
  | N, n + 1, v2, v3, v4, _, e0 => (bif (decide (v4 < v3)) then (bif (decide (0 ≤ v4)) then (match v2[(v4 : Int).toNat]? with | some x6 => none | none => none) else none) else e0)
abbrev TF23_1 : Type 1 := List (G_Row) → {R : Type} → (Bool → Option R) → Option R
def F23_1_ (N : Nat) (a1 : List (G_Row)) {R : Type} (k0 : Bool → Option R) : Option R :=
  (bif ((a1.length : Int) != 0) then k0 false else (L23_1_4 N N a1 (a1.length : Int) 0 (k0 true)))
def F23_1 (N : Nat) : TF23_1 := @F23_1_ N
def p_F23_1 (args : List (IV A)) : Bool := match args with | [.d (.sl 54 _), .d .nsl] => true | _ => false
def SS_F23_1 (g : TF23_1) : Spec A := fun args _ k => match args with | [.d (.sl 54 a1), .d .nsl] => g a1 (fun z0 => k (.d (.bool z0)) [.undef, .undef]) | _ => none
def S_F23_1 (N : Nat) : Spec A := SS_F23_1 (F23_1 N)
def sh_L23_1_4 : SSt := { fr := sparse .undef 26 [(0, .sl 54), (1, .nsl), (12, .int .i64), (13, .int .i64)], st := sparse .none 0 [] }
def LP_L23_1_4 (N n : Nat) (ps : List (Pv A)) {R : Type} (K : Ex → St A → Option R) : Option R := match ps with | [.d (.sl 54 p0), .d (.int .i64 p1), .d (.int .i64 p2)] => L23_1_4 N n p0 p1 p2 (K (.exit 0) { fr := sparse .undef 26 [], st := sparse none 0 [] }) | _ => none
def LS_L23_1_4 (N n : Nat) : Piece A := fun S _ K => match decSt sh_L23_1_4 S with | some ps => LP_L23_1_4 N n ps K | none => none
def C_F23_1_ : List (Nat × Spec A) := []
def C_F23_1 (N : Nat) : List (Nat × Spec A) := C_F23_1_
noncomputable def E_F23_1_ (N : Nat) : Env A := { P := Tryz.prog, T := T, C := fun f => (C_F23_1_).lookup f, tg := fun d => ([].lookup d).getD [], seqH := fun _ => none, loopH := fun i => [(4, ({ keep := [0, 1, 12, 13], canon := [], stay := [] } : Hint))].lookup i, exitH := fun i => [(4, ({ keep := [], canon := [], stay := [] } : Hint))].lookup i, cutL := fun i => [(4, LS_L23_1_4 N N)].lookup i, mode := fun f i => [].contains (f, i), keyed := keyT, flat := flatT, pin := [] }
noncomputable def E_F23_1 (N : Nat) : Env A := E_F23_1_ N
theorem tg_F23_1 (N : Nat) (a1 : List (G_Row)) (R : Type) (k : IV A → List (IV A) → Option R) : abody (E_F23_1_ N) Tryz.f23 code_23 0 [] [.asis] N [.d (.sl 54 a1), .d .nsl] k = SS_F23_1 (@F23_1_ N) [.d (.sl 54 a1), .d .nsl] k := by kernel_rfl
theorem t_F23_1 (N : Nat) (a1 : List (G_Row)) (R : Type) (k : IV A → List (IV A) → Option R) : abody (E_F23_1 N) Tryz.f23 code_23 0 [] [.asis] N [.d (.sl 54 a1), .d .nsl] k = S_F23_1 N [.d (.sl 54 a1), .d .nsl] k := tg_F23_1 N a1 R k
noncomputable def cb_L23_1_4 : Code := sub [1, 1, 0, 1, 0, 0] code_23
noncomputable def bd_L23_1_4 (N : Nat) : Piece A := around (fun S _ K => aexec (E_F23_1_ N) N cb_L23_1_4 S K) ((firstReg cb_L23_1_4).bind (E_F23_1_ N).loopH) ((firstReg cb_L23_1_4).bind (E_F23_1_ N).exitH)
theorem b_L23_1_4 (N n : Nat) (p0 : List (G_Row)) (p1 : Int) (p2 : Int) (R : Type) (K : Ex → St A → Option R) : bd_L23_1_4 N { fr := sparse .undef 26 [(0, .d (.sl 54 p0)), (1, .d .nsl), (12, .d (.int .i64 p1)), (13, .d (.int .i64 p2))], st := sparse none 0 [] } (fun e S' => match e with | .normal => LS_L23_1_4 N n S' K | e => K e S') = LP_L23_1_4 N (n + 1) [.d (.sl 54 p0), .d (.int .i64 p1), .d (.int .i64 p2)] K := by kernel_rfl
theorem m_L23_1_4 (ps : List (Pv A)) : (∀ (N n : Nat) (R : Type) (K : Ex → St A → Option R), LP_L23_1_4 N n ps K = none) ∨ ∃ (p0 : List (G_Row)) (p1 : Int) (p2 : Int), ps = [.d (.sl 54 p0), .d (.int .i64 p1), .d (.int .i64 p2)] := by
  by_cases h : ∃ (p0 : List (G_Row)) (p1 : Int) (p2 : Int), ps = [.d (.sl 54 p0), .d (.int .i64 p1), .d (.int .i64 p2)]
  · exact .inr h
  · refine .inl (fun N n R K => ?_)
    unfold LP_L23_1_4
    split
    · exact absurd ⟨_, _, _, rfl⟩ h
    · rfl
theorem s_L23_1_4 (N n : Nat) (S : St A) : (∀ (R : Type) (K : Ex → St A → Option R), LS_L23_1_4 N (n + 1) S K = none) ∨ ∀ (R : Type) (K : Ex → St A → Option R), LS_L23_1_4 N (n + 1) S K = bd_L23_1_4 N S (fun e S' => match e with | .normal => LS_L23_1_4 N n S' K | e => K e S') := by
  cases hd : decSt sh_L23_1_4 S with
  | none => exact .inl (fun R K => by unfold LS_L23_1_4; rw [hd])
  | some ps =>
    have he := decSt_enc hd
    rcases m_L23_1_4 ps with h | ⟨p0, p1, p2, rfl⟩
    · exact .inl (fun R K => by unfold LS_L23_1_4; rw [hd]; exact h N (n + 1) R K)
    · have hS : encSt (A := A) sh_L23_1_4 [.d (.sl 54 p0), .d (.int .i64 p1), .d (.int .i64 p2)] = some { fr := sparse .undef 26 [(0, .d (.sl 54 p0)), (1, .d .nsl), (12, .d (.int .i64 p1)), (13, .d (.int .i64 p2))], st := sparse none 0 [] } := by kernel_rfl
      rw [hS] at he
      obtain rfl := Option.some.inj he
      refine .inr (fun R K => ?_)
      rw [b_L23_1_4]
      unfold LS_L23_1_4
      rw [hd]
theorem z_L23_1_4 (N : Nat) (R : Type) (S : St A) (K : Ex → St A → Option R) : LS_L23_1_4 N 0 S K = none := by
  unfold LS_L23_1_4
  cases decSt sh_L23_1_4 S with
  | none => rfl
  | some ps =>
    simp only
    unfold LP_L23_1_4
    split <;> (try unfold L23_1_4) <;> rfl
theorem en_F23_1 : Enters Tryz.prog 23 := en_23
theorem tl_F23_1 (N : Nat) : TabL Tryz.prog T (C_F23_1 N) := .nil
theorem nl_F23_1 (N : Nat) : NatL (C_F23_1 N) := .nil
theorem ct_F23_1 (N : Nat) : NatTab (E_F23_1 N).C := tab_nat (l := C_F23_1 N) (nl_F23_1 N)
theorem eo_F23_1 (N : Nat) : EnvOk (E_F23_1 N) := ⟨tyOk Tryz.prog, tab_sound (l := C_F23_1 N) (tl_F23_1 N), flatOk, keysOk⟩
theorem ll_L23_1_4 : loopsOf cb_L23_1_4 = [] := by kernel_rfl
theorem fi_L23_1_4 (N : Nat) : FineL (E_F23_1 N) N [] := .nil
theorem cc_L23_1_4 (N : Nat) : CutsOk (E_F23_1 N) N cb_L23_1_4 := cuts_of (fun _ => rfl) cb_L23_1_4 (by rw [ll_L23_1_4]; exact fi_L23_1_4 N)
theorem cg_L23_1_4 (N : Nat) : (firstReg cb_L23_1_4).bind (E_F23_1_ N).cutL = some (LS_L23_1_4 N N) := by kernel_rfl
theorem ce_L23_1_4 (N : Nat) : (firstReg cb_L23_1_4).bind (E_F23_1 N).cutL = some (LS_L23_1_4 N N) := cg_L23_1_4 N
theorem lf_L23_1_4 (N : Nat) : LoopFine (E_F23_1 N) N cb_L23_1_4 := fine_of (LS_L23_1_4 N) (ce_L23_1_4 N) (ct_F23_1 N) (cc_L23_1_4 N) (z_L23_1_4 N) (s_L23_1_4 N)
theorem ll_F23_1 : loopsOf code_23 = [cb_L23_1_4] := by kernel_rfl
theorem fi_F23_1 (N : Nat) : FineL (E_F23_1 N) N [cb_L23_1_4] := (.cons (lf_L23_1_4 N) .nil)
theorem cc_F23_1 (N : Nat) : CutsOk (E_F23_1 N) N code_23 := cuts_of (fun _ => rfl) code_23 (by rw [ll_F23_1]; exact fi_F23_1 N)
theorem v_F23_1 (args : List (IV A)) : (∀ (N : Nat) (R : Type) (k : IV A → List (IV A) → Option R), S_F23_1 N args k = none) ∨ ∃ (a1 : List (G_Row)), args = [.d (.sl 54 a1), .d .nsl] := by
  by_cases h : ∃ (a1 : List (G_Row)), args = [.d (.sl 54 a1), .d .nsl]
  · exact .inr h
  · refine .inl (fun N R k => ?_)
    unfold S_F23_1 SS_F23_1
    split
    · exact absurd ⟨_, rfl⟩ h
    · rfl
theorem sm_F23_1 (N : Nat) : Same (S_F23_1 N) (abody (E_F23_1 N) Tryz.f23 code_23 0 [] [.asis] N) := by
  intro args
  rcases v_F23_1 args with h | ⟨a1, rfl⟩
  · exact .inl (h N)
  · exact .inr (fun R k => (t_F23_1 N a1 R k).symm)
theorem fs_F23_1 (N : Nat) : FnSound Tryz.prog T 23 (S_F23_1 N) := fs_of (E_F23_1 N) rfl rfl (eo_F23_1 N) (ct_F23_1 N) mixed fu_23 bo_23 0 [] [.asis] N (cc_F23_1 N) (sm_F23_1 N)
theorem na_F23_1 (N : Nat) : NatSpec (S_F23_1 N) := na_of (E_F23_1 N) (ct_F23_1 N) Tryz.f23 code_23 0 [] [.asis] N (cc_F23_1 N) (sm_F23_1 N)
def L25_1_4 : Nat → Nat → List (G_Contact) → Int → Int → {R : Type} → (Option R) → Option R
  | _, 0, _, _, _, _, _ => none
  | N, n + 1, v2, v3, v4, _, e0 => (bif (decide (v4 < v3)) then (bif (decide (0 ≤ v4)) then (match v2[(v4 : Int).toNat]? with | some x6 => none | none => none) else none) else e0)
abbrev TF25_1 : Type 1 := List (G_Contact) → {R : Type} → (Bool → Option R) → Option R
def F25_1_ (N : Nat) (a1 : List (G_Contact)) {R : Type} (k0 : Bool → Option R) : Option R :=
  (bif ((a1.length : Int) != 0) then k0 false else (L25_1_4 N N a1 (a1.length : Int) 0 (k0 true)))
def F25_1 (N : Nat) : TF25_1 := @F25_1_ N
def p_F25_1 (args : List (IV A)) : Bool := match args with | [.d (.sl 58 _), .d .nsl] => true | _ => false
def SS_F25_1 (g : TF25_1) : Spec A := fun args _ k => match args with | [.d (.sl 58 a1), .d .nsl] => g a1 (fun z0 => k (.d (.bool z0)) [.undef, .undef]) | _ => none
def S_F25_1 (N : Nat) : Spec A := SS_F25_1 (F25_1 N)
def sh_L25_1_4 : SSt := { fr := sparse .undef 26 [(0, .sl 58), (1, .nsl), (12, .int .i64), (13, .int .i64)], st := sparse .none 0 [] }
def LP_L25_1_4 (N n : Nat) (ps : List (Pv A)) {R : Type} (K : Ex → St A → Option R) : Option R := match ps with | [.d (.sl 58 p0), .d (.int .i64 p1), .d (.int .i64 p2)] => L25_1_4 N n p0 p1 p2 (K (.exit 0) { fr := sparse .undef 26 [], st := sparse none 0 [] }) | _ => none
def LS_L25_1_4 (N n : Nat) : Piece A := fun S _ K => match decSt sh_L25_1_4 S with | some ps => LP_L25_1_4 N n ps K | none => none
def C_F25_1_ : List (Nat × Spec A) := []
def C_F25_1 (N : Nat) : List (Nat × Spec A) := C_F25_1_
noncomputable def E_F25_1_ (N : Nat) : Env A := { P := Tryz.prog, T := T, C := fun f => (C_F25_1_).lookup f, tg := fun d => ([].lookup d).getD [], seqH := fun _ => none, loopH := fun i => [(4, ({ keep := [0, 1, 12, 13], canon := [], stay := [] } : Hint))].lookup i, exitH := fun i => [(4, ({ keep := [], canon := [], stay := [] } : Hint))].lookup i, cutL := fun i => [(4, LS_L25_1_4 N N)].lookup i, mode := fun f i => [].contains (f, i), keyed := keyT, flat := flatT, pin := [] }
noncomputable def E_F25_1 (N : Nat) : Env A := E_F25_1_ N
theorem tg_F25_1 (N : Nat) (a1 : List (G_Contact)) (R : Type) (k : IV A → List (IV A) → Option R) : abody (E_F25_1_ N) Tryz.f25 code_25 0 [] [.asis] N [.d (.sl 58 a1), .d .nsl] k = SS_F25_1 (@F25_1_ N) [.d (.sl 58 a1), .d .nsl] k := by kernel_rfl
theorem t_F25_1 (N : Nat) (a1 : List (G_Contact)) (R : Type) (k : IV A → List (IV A) → Option R) : abody (E_F25_1 N) Tryz.f25 code_25 0 [] [.asis] N [.d (.sl 58 a1), .d .nsl] k = S_F25_1 N [.d (.sl 58 a1), .d .nsl] k := tg_F25_1 N a1 R k
noncomputable def cb_L25_1_4 : Code := sub [1, 1, 0, 1, 0, 0] code_25
noncomputable def bd_L25_1_4 (N : Nat) : Piece A := around (fun S _ K => aexec (E_F25_1_ N) N cb_L25_1_4 S K) ((firstReg cb_L25_1_4).bind (E_F25_1_ N).loopH) ((firstReg cb_L25_1_4).bind (E_F25_1_ N).exitH)
theorem b_L25_1_4 (N n : Nat) (p0 : List (G_Contact)) (p1 : Int) (p2 : Int) (R : Type) (K : Ex → St A → Option R) : bd_L25_1_4 N { fr := sparse .undef 26 [(0, .d (.sl 58 p0)), (1, .d .nsl), (12, .d (.int .i64 p1)), (13, .d (.int .i64 p2))], st := sparse none 0 [] } (fun e S' => match e with | .normal => LS_L25_1_4 N n S' K | e => K e S') = LP_L25_1_4 N (n + 1) [.d (.sl 58 p0), .d (.int .i64 p1), .d (.int .i64 p2)] K := by kernel_rfl
theorem m_L25_1_4 (ps : List (Pv A)) : (∀ (N n : Nat) (R : Type) (K : Ex → St A → Option R), LP_L25_1_4 N n ps K = none) ∨ ∃ (p0 : List (G_Contact)) (p1 : Int) (p2 : Int), ps = [.d (.sl 58 p0), .d (.int .i64 p1), .d (.int .i64 p2)] := by
  by_cases h : ∃ (p0 : List (G_Contact)) (p1 : Int) (p2 : Int), ps = [.d (.sl 58 p0), .d (.int .i64 p1), .d (.int .i64 p2)]
  · exact .inr h
  · refine .inl (fun N n R K => ?_)
    unfold LP_L25_1_4
    split
    · exact absurd ⟨_, _, _, rfl⟩ h
    · rfl
theorem s_L25_1_4 (N n : Nat) (S : St A) : (∀ (R : Type) (K : Ex → St A → Option R), LS_L25_1_4 N (n + 1) S K = none) ∨ ∀ (R : Type) (K : Ex → St A → Option R), LS_L25_1_4 N (n + 1) S K = bd_L25_1_4 N S (fun e S' => match e with | .normal => LS_L25_1_4 N n S' K | e => K e S') := by
  cases hd : decSt sh_L25_1_4 S with
  | none => exact .inl (fun R K => by unfold LS_L25_1_4; rw [hd])
  | some ps =>
    have he := decSt_enc hd
    rcases m_L25_1_4 ps with h | ⟨p0, p1, p2, rfl⟩
    · exact .inl (fun R K => by unfold LS_L25_1_4; rw [hd]; exact h N (n + 1) R K)
    · have hS : encSt (A := A) sh_L25_1_4 [.d (.sl 58 p0), .d (.int .i64 p1), .d (.int .i64 p2)] = some { fr := sparse .undef 26 [(0, .d (.sl 58 p0)), (1, .d .nsl), (12, .d (.int .i64 p1)), (13, .d (.int .i64 p2))], st := sparse none 0 [] } := by kernel_rfl
      rw [hS] at he
      obtain rfl := Option.some.inj he
      refine .inr (fun R K => ?_)
      rw [b_L25_1_4]
      unfold LS_L25_1_4
      rw [hd]
theorem z_L25_1_4 (N : Nat) (R : Type) (S : St A) (K : Ex → St A → Option R) : LS_L25_1_4 N 0 S K = none := by
  unfold LS_L25_1_4
  cases decSt sh_L25_1_4 S with
  | none => rfl
  | some ps =>
    simp only
    unfold LP_L25_1_4
    split <;> (try unfold L25_1_4) <;> rfl
theorem en_F25_1 : Enters Tryz.prog 25 := en_25
theorem tl_F25_1 (N : Nat) : TabL Tryz.prog T (C_F25_1 N) := .nil
theorem nl_F25_1 (N : Nat) : NatL (C_F25_1 N) := .nil
theorem ct_F25_1 (N : Nat) : NatTab (E_F25_1 N).C := tab_nat (l := C_F25_1 N) (nl_F25_1 N)
theorem eo_F25_1 (N : Nat) : EnvOk (E_F25_1 N) := ⟨tyOk Tryz.prog, tab_sound (l := C_F25_1 N) (tl_F25_1 N), flatOk, keysOk⟩
theorem ll_L25_1_4 : loopsOf cb_L25_1_4 = [] := by kernel_rfl
theorem fi_L25_1_4 (N : Nat) : FineL (E_F25_1 N) N [] := .nil
theorem cc_L25_1_4 (N : Nat) : CutsOk (E_F25_1 N) N cb_L25_1_4 := cuts_of (fun _ => rfl) cb_L25_1_4 (by rw [ll_L25_1_4]; exact fi_L25_1_4 N)
theorem cg_L25_1_4 (N : Nat) : (firstReg cb_L25_1_4).bind (E_F25_1_ N).cutL = some (LS_L25_1_4 N N) := by kernel_rfl
theorem ce_L25_1_4 (N : Nat) : (firstReg cb_L25_1_4).bind (E_F25_1 N).cutL = some (LS_L25_1_4 N N) := cg_L25_1_4 N
theorem lf_L25_1_4 (N : Nat) : LoopFine (E_F25_1 N) N cb_L25_1_4 := fine_of (LS_L25_1_4 N) (ce_L25_1_4 N) (ct_F25_1 N) (cc_L25_1_4 N) (z_L25_1_4 N) (s_L25_1_4 N)
theorem ll_F25_1 : loopsOf code_25 = [cb_L25_1_4] := by kernel_rfl
theorem fi_F25_1 (N : Nat) : FineL (E_F25_1 N) N [cb_L25_1_4] := (.cons (lf_L25_1_4 N) .nil)
theorem cc_F25_1 (N : Nat) : CutsOk (E_F25_1 N) N code_25 := cuts_of (fun _ => rfl) code_25 (by rw [ll_F25_1]; exact fi_F25_1 N)
theorem v_F25_1 (args : List (IV A)) : (∀ (N : Nat) (R : Type) (k : IV A → List (IV A) → Option R), S_F25_1 N args k = none) ∨ ∃ (a1 : List (G_Contact)), args = [.d (.sl 58 a1), .d .nsl] := by
  by_cases h : ∃ (a1 : List (G_Contact)), args = [.d (.sl 58 a1), .d .nsl]
  · exact .inr h
  · refine .inl (fun N R k => ?_)
    unfold S_F25_1 SS_F25_1
    split
    · exact absurd ⟨_, rfl⟩ h
    · rfl
theorem sm_F25_1 (N : Nat) : Same (S_F25_1 N) (abody (E_F25_1 N) Tryz.f25 code_25 0 [] [.asis] N) := by
  intro args
  rcases v_F25_1 args with h | ⟨a1, rfl⟩
  · exact .inl (h N)
  · exact .inr (fun R k => (t_F25_1 N a1 R k).symm)
theorem fs_F25_1 (N : Nat) : FnSound Tryz.prog T 25 (S_F25_1 N) := fs_of (E_F25_1 N) rfl rfl (eo_F25_1 N) (ct_F25_1 N) mixed fu_25 bo_25 0 [] [.asis] N (cc_F25_1 N) (sm_F25_1 N)
theorem na_F25_1 (N : Nat) : NatSpec (S_F25_1 N) := na_of (E_F25_1 N) (ct_F25_1 N) Tryz.f25 code_25 0 [] [.asis] N (cc_F25_1 N) (sm_F25_1 N)
end Go.Am
