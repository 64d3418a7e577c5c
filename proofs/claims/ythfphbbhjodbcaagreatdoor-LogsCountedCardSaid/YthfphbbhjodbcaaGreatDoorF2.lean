/- The functions of the program as Lean functions, each shown to be what the code computes, part 2. No condition: lemmas for the claim. -/
import Derived.Test.YthfphbbhjodbcaaGreatDoorF0
import Derived.Test.YthfphbbhjodbcaaGreatDoorFSh
import Derived.Test.YthfphbbhjodbcaaGreatDoorF1
set_option linter.unusedVariables false
set_option maxRecDepth 100000
namespace Go.Am
open Go Go.Proofs
def L86_4 (g39 : TF39) : Nat → Nat → Int → Int → Int → Int → List (G_Contact) → {R : Type} → (Int → Int → Int → List (G_Contact) → Option R) → Option R
  | _, 0, _, _, _, _, _, _, _ => none
  | N, n + 1, v31, v32, v33, v34, v35, _, e0 => (bif (decide (v34 > v31)) then (bif (decide (0 ≤ v34) && decide (v34 < (v35.length : Int))) then (match v35[(v34 : Int).toNat]? with | some x43 => (bif (decide (0 ≤ (IntKind.i64.wrap (v34 - 1))) && decide ((IntKind.i64.wrap (v34 - 1)) < (v35.length : Int))) then (match v35[((IntKind.i64.wrap (v34 - 1)) : Int).toNat]? with | some x44 => (g39 x43.f_At x43.f_Mode x43.f_Band x43.f_Call x43.f_Sent x43.f_Heard x43.f_Gave x43.f_Got x44.f_At x44.f_Mode x44.f_Band x44.f_Call x44.f_Sent x44.f_Heard x44.f_Gave x44.f_Got (fun r45 => (bif (decide (r45 < 0)) then (bif (decide (0 ≤ (IntKind.i64.wrap (v34 - 1))) && decide ((IntKind.i64.wrap (v34 - 1)) < (v35.length : Int))) then (match v35[((IntKind.i64.wrap (v34 - 1)) : Int).toNat]? with | some x46 => (bif (decide (0 ≤ v34) && decide (v34 < (v35.length : Int))) then (match v35[(v34 : Int).toNat]? with | some x47 => (bif (decide (0 ≤ v34) && decide (v34 < (v35.length : Int))) then (match v35[(v34 : Int).toNat]? with | some x48 => (bif (decide (0 ≤ (IntKind.i64.wrap (v34 - 1))) && decide ((IntKind.i64.wrap (v34 - 1)) < ((v35.set (v34 : Int).toNat x46).length : Int))) then (match (v35.set (v34 : Int).toNat x46)[((IntKind.i64.wrap (v34 - 1)) : Int).toNat]? with | some x49 => L86_4 g39 N n v31 v32 v33 ((IntKind.i64.wrap (v34 - 1))) (((v35.set (v34 : Int).toNat x46).set ((IntKind.i64.wrap (v34 - 1)) : Int).toNat x47)) e0 | none => none) else none) | none => none) else none) | none => none) else none) | none => none) else none) else e0 v31 v32 v33 v35))) | none => none) else none) | none => none) else none) else e0 v31 v32 v33 v35)
def L86_1 (g39 : TF39) : Nat → Nat → Int → Int → Int → List (G_Contact) → {R : Type} → (List (G_Contact) → Option R) → Option R
  | _, 0, _, _, _, _, _, _ => none
  | N, n + 1, v4, v5, v6, v7, _, e0 => (bif (decide (v6 < v5)) then (L86_4 g39 N N v4 v5 v6 v6 v7 (fun e50 e51 e52 e53 => L86_1 g39 N n e50 e51 ((IntKind.i64.wrap (e52 + 1))) e53 e0)) else e0 v7)
abbrev TF86 : Type 1 := List (G_Contact) → Int → Int → {R : Type} → (List (G_Contact) → Option R) → Option R
def F86_ (g39 : TF39) (N : Nat) (a1 : List (G_Contact)) (a2 : Int) (a3 : Int) {R : Type} (k0 : List (G_Contact) → Option R) : Option R :=
  (L86_1 g39 N N a2 a3 ((IntKind.i64.wrap (a2 + 1))) a1 (fun e54 => k0 e54))
def F86 (N : Nat) : TF86 := @F86_ (@F39 N) N
def p_F86 (args : List (IV A)) : Bool := match args with | [.arr 58 _, .d (.int .i64 _), .d (.int .i64 _), .fn 39 []] => true | _ => false
def SS_F86 (g : TF86) : Spec A := fun args _ k => match args with | [.arr 58 a1, .d (.int .i64 a2), .d (.int .i64 a3), .fn 39 []] => g a1 a2 a3 (fun z0 => k (.tup []) [.arr 58 z0, .undef, .undef, .fn 39 []]) | _ => none
def S_F86 (N : Nat) : Spec A := SS_F86 (F86 N)
def sh_L86_4 : SSt := { fr := sparse .undef 53 [(0, .own 58 0), (1, .int .i64), (2, .int .i64), (3, .fn 39 []), (8, .int .i64), (9, .int .i64)], st := sparse .none 1 [(0, .row 58)] }
def LP_L86_4 (g39 : TF39) (N n : Nat) (ps : List (Pv A)) {R : Type} (K : Ex → St A → Option R) : Option R := match ps with | [.d (.int .i64 p0), .d (.int .i64 p1), .d (.int .i64 p2), .d (.int .i64 p3), .d (.sl 58 p4)] => L86_4 g39 N n p0 p1 p2 p3 p4 (fun z0 z1 z2 z3 => K (.exit 2) { fr := sparse .undef 53 [(0, .own 58 0), (1, .d (.int .i64 z0)), (2, .d (.int .i64 z1)), (3, .fn 39 []), (8, .d (.int .i64 z2))], st := sparse none 1 [(0, some (.row 58 z3))] }) | _ => none
def LS_L86_4 (g39 : TF39) (N n : Nat) : Piece A := fun S _ K => match decSt sh_L86_4 S with | some ps => LP_L86_4 g39 N n ps K | none => none
def sh_L86_1 : SSt := { fr := sparse .undef 53 [(0, .own 58 0), (1, .int .i64), (2, .int .i64), (3, .fn 39 []), (8, .int .i64)], st := sparse .none 1 [(0, .row 58)] }
def LP_L86_1 (g39 : TF39) (N n : Nat) (ps : List (Pv A)) {R : Type} (K : Ex → St A → Option R) : Option R := match ps with | [.d (.int .i64 p0), .d (.int .i64 p1), .d (.int .i64 p2), .d (.sl 58 p3)] => L86_1 g39 N n p0 p1 p2 p3 (fun z0 => K (.exit 0) { fr := sparse .undef 53 [(0, .own 58 0), (3, .fn 39 [])], st := sparse none 1 [(0, some (.row 58 z0))] }) | _ => none
def LS_L86_1 (g39 : TF39) (N n : Nat) : Piece A := fun S _ K => match decSt sh_L86_1 S with | some ps => LP_L86_1 g39 N n ps K | none => none
noncomputable def code_86 : Code := (Tryz.f86.body).getD .skip
def C_F86_ (g39 : TF39) : List (Nat × Spec A) := [(39, SS_F39 g39)]
def C_F86 (N : Nat) : List (Nat × Spec A) := C_F86_ (@F39 N)
noncomputable def E_F86_ (g39 : TF39) (N : Nat) : Env A := { P := Tryz.prog, T := T, C := fun f => (C_F86_ g39).lookup f, tg := fun d => ([].lookup d).getD [], seqH := fun _ => none, loopH := fun i => [(4, ({ keep := [0, 1, 2, 3, 8, 9], canon := [], stay := [0] } : Hint)), (1, ({ keep := [0, 1, 2, 3, 8], canon := [], stay := [0] } : Hint))].lookup i, exitH := fun i => [(4, ({ keep := [0, 1, 2, 3, 8], canon := [], stay := [0] } : Hint)), (1, ({ keep := [0, 3], canon := [], stay := [0] } : Hint))].lookup i, cutL := fun i => [(4, LS_L86_4 g39 N N), (1, LS_L86_1 g39 N N)].lookup i, mode := fun f i => [].contains (f, i), keyed := keyT, flat := flatT, pin := [0, 3] }
noncomputable def E_F86 (N : Nat) : Env A := E_F86_ (@F39 N) N
theorem tg_F86 (g39 : TF39) (N : Nat) (a1 : List (G_Contact)) (a2 : Int) (a3 : Int) (R : Type) (k : IV A → List (IV A) → Option R) : abody (E_F86_ g39 N) Tryz.f86 code_86 1 [0] [] N [.arr 58 a1, .d (.int .i64 a2), .d (.int .i64 a3), .fn 39 []] k = SS_F86 (@F86_ g39 N) [.arr 58 a1, .d (.int .i64 a2), .d (.int .i64 a3), .fn 39 []] k := by kernel_rfl
theorem t_F86 (N : Nat) (a1 : List (G_Contact)) (a2 : Int) (a3 : Int) (R : Type) (k : IV A → List (IV A) → Option R) : abody (E_F86 N) Tryz.f86 code_86 1 [0] [] N [.arr 58 a1, .d (.int .i64 a2), .d (.int .i64 a3), .fn 39 []] k = S_F86 N [.arr 58 a1, .d (.int .i64 a2), .d (.int .i64 a3), .fn 39 []] k := tg_F86 (@F39 N) N a1 a2 a3 R k
noncomputable def cb_L86_4 : Code := sub [1, 0, 0, 1, 0, 0, 1, 0, 0] code_86
noncomputable def bd_L86_4 (g39 : TF39) (N : Nat) : Piece A := around (fun S _ K => aexec (E_F86_ g39 N) N cb_L86_4 S K) ((firstReg cb_L86_4).bind (E_F86_ g39 N).loopH) ((firstReg cb_L86_4).bind (E_F86_ g39 N).exitH)
theorem b_L86_4 (g39 : TF39) (N n : Nat) (p0 : Int) (p1 : Int) (p2 : Int) (p3 : Int) (p4 : List (G_Contact)) (R : Type) (K : Ex → St A → Option R) : bd_L86_4 g39 N { fr := sparse .undef 53 [(0, .own 58 0), (1, .d (.int .i64 p0)), (2, .d (.int .i64 p1)), (3, .fn 39 []), (8, .d (.int .i64 p2)), (9, .d (.int .i64 p3))], st := sparse none 1 [(0, some (.row 58 p4))] } (fun e S' => match e with | .normal => LS_L86_4 g39 N n S' K | e => K e S') = LP_L86_4 g39 N (n + 1) [.d (.int .i64 p0), .d (.int .i64 p1), .d (.int .i64 p2), .d (.int .i64 p3), .d (.sl 58 p4)] K := by kernel_rfl
theorem m_L86_4 (g39 : TF39) (ps : List (Pv A)) : (∀ (N n : Nat) (R : Type) (K : Ex → St A → Option R), LP_L86_4 g39 N n ps K = none) ∨ ∃ (p0 : Int) (p1 : Int) (p2 : Int) (p3 : Int) (p4 : List (G_Contact)), ps = [.d (.int .i64 p0), .d (.int .i64 p1), .d (.int .i64 p2), .d (.int .i64 p3), .d (.sl 58 p4)] := by
  by_cases h : ∃ (p0 : Int) (p1 : Int) (p2 : Int) (p3 : Int) (p4 : List (G_Contact)), ps = [.d (.int .i64 p0), .d (.int .i64 p1), .d (.int .i64 p2), .d (.int .i64 p3), .d (.sl 58 p4)]
  · exact .inr h
  · refine .inl (fun N n R K => ?_)
    unfold LP_L86_4
    split
    · exact absurd ⟨_, _, _, _, _, rfl⟩ h
    · rfl
theorem s_L86_4 (g39 : TF39) (N n : Nat) (S : St A) : (∀ (R : Type) (K : Ex → St A → Option R), LS_L86_4 g39 N (n + 1) S K = none) ∨ ∀ (R : Type) (K : Ex → St A → Option R), LS_L86_4 g39 N (n + 1) S K = bd_L86_4 g39 N S (fun e S' => match e with | .normal => LS_L86_4 g39 N n S' K | e => K e S') := by
  cases hd : decSt sh_L86_4 S with
  | none => exact .inl (fun R K => by unfold LS_L86_4; rw [hd])
  | some ps =>
    have he := decSt_enc hd
    rcases m_L86_4 g39 ps with h | ⟨p0, p1, p2, p3, p4, rfl⟩
    · exact .inl (fun R K => by unfold LS_L86_4; rw [hd]; exact h N (n + 1) R K)
    · have hS : encSt (A := A) sh_L86_4 [.d (.int .i64 p0), .d (.int .i64 p1), .d (.int .i64 p2), .d (.int .i64 p3), .d (.sl 58 p4)] = some { fr := sparse .undef 53 [(0, .own 58 0), (1, .d (.int .i64 p0)), (2, .d (.int .i64 p1)), (3, .fn 39 []), (8, .d (.int .i64 p2)), (9, .d (.int .i64 p3))], st := sparse none 1 [(0, some (.row 58 p4))] } := by kernel_rfl
      rw [hS] at he
      obtain rfl := Option.some.inj he
      refine .inr (fun R K => ?_)
      rw [b_L86_4]
      unfold LS_L86_4
      rw [hd]
theorem z_L86_4 (g39 : TF39) (N : Nat) (R : Type) (S : St A) (K : Ex → St A → Option R) : LS_L86_4 g39 N 0 S K = none := by
  unfold LS_L86_4
  cases decSt sh_L86_4 S with
  | none => rfl
  | some ps =>
    simp only
    unfold LP_L86_4
    split <;> (try unfold L86_4) <;> rfl
noncomputable def cb_L86_1 : Code := sub [1, 0, 0] code_86
noncomputable def bd_L86_1 (g39 : TF39) (N : Nat) : Piece A := around (fun S _ K => aexec (E_F86_ g39 N) N cb_L86_1 S K) ((firstReg cb_L86_1).bind (E_F86_ g39 N).loopH) ((firstReg cb_L86_1).bind (E_F86_ g39 N).exitH)
theorem b_L86_1 (g39 : TF39) (N n : Nat) (p0 : Int) (p1 : Int) (p2 : Int) (p3 : List (G_Contact)) (R : Type) (K : Ex → St A → Option R) : bd_L86_1 g39 N { fr := sparse .undef 53 [(0, .own 58 0), (1, .d (.int .i64 p0)), (2, .d (.int .i64 p1)), (3, .fn 39 []), (8, .d (.int .i64 p2))], st := sparse none 1 [(0, some (.row 58 p3))] } (fun e S' => match e with | .normal => LS_L86_1 g39 N n S' K | e => K e S') = LP_L86_1 g39 N (n + 1) [.d (.int .i64 p0), .d (.int .i64 p1), .d (.int .i64 p2), .d (.sl 58 p3)] K := by kernel_rfl
theorem m_L86_1 (g39 : TF39) (ps : List (Pv A)) : (∀ (N n : Nat) (R : Type) (K : Ex → St A → Option R), LP_L86_1 g39 N n ps K = none) ∨ ∃ (p0 : Int) (p1 : Int) (p2 : Int) (p3 : List (G_Contact)), ps = [.d (.int .i64 p0), .d (.int .i64 p1), .d (.int .i64 p2), .d (.sl 58 p3)] := by
  by_cases h : ∃ (p0 : Int) (p1 : Int) (p2 : Int) (p3 : List (G_Contact)), ps = [.d (.int .i64 p0), .d (.int .i64 p1), .d (.int .i64 p2), .d (.sl 58 p3)]
  · exact .inr h
  · refine .inl (fun N n R K => ?_)
    unfold LP_L86_1
    split
    · exact absurd ⟨_, _, _, _, rfl⟩ h
    · rfl
theorem s_L86_1 (g39 : TF39) (N n : Nat) (S : St A) : (∀ (R : Type) (K : Ex → St A → Option R), LS_L86_1 g39 N (n + 1) S K = none) ∨ ∀ (R : Type) (K : Ex → St A → Option R), LS_L86_1 g39 N (n + 1) S K = bd_L86_1 g39 N S (fun e S' => match e with | .normal => LS_L86_1 g39 N n S' K | e => K e S') := by
  cases hd : decSt sh_L86_1 S with
  | none => exact .inl (fun R K => by unfold LS_L86_1; rw [hd])
  | some ps =>
    have he := decSt_enc hd
    rcases m_L86_1 g39 ps with h | ⟨p0, p1, p2, p3, rfl⟩
    · exact .inl (fun R K => by unfold LS_L86_1; rw [hd]; exact h N (n + 1) R K)
    · have hS : encSt (A := A) sh_L86_1 [.d (.int .i64 p0), .d (.int .i64 p1), .d (.int .i64 p2), .d (.sl 58 p3)] = some { fr := sparse .undef 53 [(0, .own 58 0), (1, .d (.int .i64 p0)), (2, .d (.int .i64 p1)), (3, .fn 39 []), (8, .d (.int .i64 p2))], st := sparse none 1 [(0, some (.row 58 p3))] } := by kernel_rfl
      rw [hS] at he
      obtain rfl := Option.some.inj he
      refine .inr (fun R K => ?_)
      rw [b_L86_1]
      unfold LS_L86_1
      rw [hd]
theorem z_L86_1 (g39 : TF39) (N : Nat) (R : Type) (S : St A) (K : Ex → St A → Option R) : LS_L86_1 g39 N 0 S K = none := by
  unfold LS_L86_1
  cases decSt sh_L86_1 S with
  | none => rfl
  | some ps =>
    simp only
    unfold LP_L86_1
    split <;> (try unfold L86_1) <;> rfl
theorem en_86 : Enters Tryz.prog 86 := enters_of (fn := Tryz.f86) (by kernel_rfl) (by kernel_rfl) (by kernel_rfl)
theorem en_F86 : Enters Tryz.prog 86 := en_86
theorem tl_F86 (N : Nat) : TabL Tryz.prog T (C_F86 N) := (.cons (fs_F39 N) en_F39 .nil)
theorem nl_F86 (N : Nat) : NatL (C_F86 N) := (.cons (na_F39 N) .nil)
theorem ct_F86 (N : Nat) : NatTab (E_F86 N).C := tab_nat (l := C_F86 N) (nl_F86 N)
theorem eo_F86 (N : Nat) : EnvOk (E_F86 N) := ⟨tyOk Tryz.prog, tab_sound (l := C_F86 N) (tl_F86 N), flatOk, keysOk⟩
theorem ll_L86_4 : loopsOf cb_L86_4 = [] := by kernel_rfl
theorem fi_L86_4 (N : Nat) : FineL (E_F86 N) N [] := .nil
theorem cc_L86_4 (N : Nat) : CutsOk (E_F86 N) N cb_L86_4 := cuts_of (fun _ => rfl) cb_L86_4 (by rw [ll_L86_4]; exact fi_L86_4 N)
theorem cg_L86_4 (g39 : TF39) (N : Nat) : (firstReg cb_L86_4).bind (E_F86_ g39 N).cutL = some (LS_L86_4 g39 N N) := by kernel_rfl
theorem ce_L86_4 (N : Nat) : (firstReg cb_L86_4).bind (E_F86 N).cutL = some (LS_L86_4 (@F39 N) N N) := cg_L86_4 (@F39 N) N
theorem lf_L86_4 (N : Nat) : LoopFine (E_F86 N) N cb_L86_4 := fine_of (LS_L86_4 (@F39 N) N) (ce_L86_4 N) (ct_F86 N) (cc_L86_4 N) (z_L86_4 (@F39 N) N) (s_L86_4 (@F39 N) N)
theorem ll_L86_1 : loopsOf cb_L86_1 = [cb_L86_4] := by kernel_rfl
theorem fi_L86_1 (N : Nat) : FineL (E_F86 N) N [cb_L86_4] := (.cons (lf_L86_4 N) .nil)
theorem cc_L86_1 (N : Nat) : CutsOk (E_F86 N) N cb_L86_1 := cuts_of (fun _ => rfl) cb_L86_1 (by rw [ll_L86_1]; exact fi_L86_1 N)
theorem cg_L86_1 (g39 : TF39) (N : Nat) : (firstReg cb_L86_1).bind (E_F86_ g39 N).cutL = some (LS_L86_1 g39 N N) := by kernel_rfl
theorem ce_L86_1 (N : Nat) : (firstReg cb_L86_1).bind (E_F86 N).cutL = some (LS_L86_1 (@F39 N) N N) := cg_L86_1 (@F39 N) N
theorem lf_L86_1 (N : Nat) : LoopFine (E_F86 N) N cb_L86_1 := fine_of (LS_L86_1 (@F39 N) N) (ce_L86_1 N) (ct_F86 N) (cc_L86_1 N) (z_L86_1 (@F39 N) N) (s_L86_1 (@F39 N) N)
theorem ll_F86 : loopsOf code_86 = [cb_L86_4, cb_L86_1] := by kernel_rfl
theorem fi_F86 (N : Nat) : FineL (E_F86 N) N [cb_L86_4, cb_L86_1] := (.cons (lf_L86_4 N) (.cons (lf_L86_1 N) .nil))
theorem cc_F86 (N : Nat) : CutsOk (E_F86 N) N code_86 := cuts_of (fun _ => rfl) code_86 (by rw [ll_F86]; exact fi_F86 N)
theorem v_F86 (args : List (IV A)) : (∀ (N : Nat) (R : Type) (k : IV A → List (IV A) → Option R), S_F86 N args k = none) ∨ ∃ (a1 : List (G_Contact)) (a2 : Int) (a3 : Int), args = [.arr 58 a1, .d (.int .i64 a2), .d (.int .i64 a3), .fn 39 []] := by
  by_cases h : ∃ (a1 : List (G_Contact)) (a2 : Int) (a3 : Int), args = [.arr 58 a1, .d (.int .i64 a2), .d (.int .i64 a3), .fn 39 []]
  · exact .inr h
  · refine .inl (fun N R k => ?_)
    unfold S_F86 SS_F86
    split
    · exact absurd ⟨_, _, _, rfl⟩ h
    · rfl
theorem sm_F86 (N : Nat) : Same (S_F86 N) (abody (E_F86 N) Tryz.f86 code_86 1 [0] [] N) := by
  intro args
  rcases v_F86 args with h | ⟨a1, a2, a3, rfl⟩
  · exact .inl (h N)
  · exact .inr (fun R k => (t_F86 N a1 a2 a3 R k).symm)
theorem fu_86 : Tryz.prog.funcs[86]? = some Tryz.f86 := by kernel_rfl
theorem bo_86 : Tryz.f86.body = some code_86 := by kernel_rfl
theorem fs_F86 (N : Nat) : FnSound Tryz.prog T 86 (S_F86 N) := fs_of (E_F86 N) rfl rfl (eo_F86 N) (ct_F86 N) mixed fu_86 bo_86 1 [0] [] N (cc_F86 N) (sm_F86 N)
theorem na_F86 (N : Nat) : NatSpec (S_F86 N) := na_of (E_F86 N) (ct_F86 N) Tryz.f86 code_86 1 [0] [] N (cc_F86 N) (sm_F86 N)
def L87_3 : Nat → Nat → Int → Int → Int → List (G_Contact) → {R : Type} → (Int → Int → List (G_Contact) → Option R) → Option R
  | _, 0, _, _, _, _, _, _ => none
  | N, n + 1, v5, v6, v7, v8, _, e0 => (bif (decide (v6 < v7)) then none else e0 v5 v6 v8)
def L87_9 : Nat → Nat → Int → Int → List (G_Contact) → {R : Type} → (List (G_Contact) → Option R) → Option R
  | _, 0, _, _, _, _, _ => none
  | N, n + 1, v12, v13, v14, _, e0 => (bif (decide (v13 < (IntKind.i64.wrap (v12 - 1)))) then (bif (decide (0 ≤ (IntKind.i64.wrap (v13 + 1))) && decide ((IntKind.i64.wrap (v13 + 1)) < (v14.length : Int))) then (match v14[((IntKind.i64.wrap (v13 + 1)) : Int).toNat]? with | some x19 => (bif (decide (0 ≤ v13) && decide (v13 < (v14.length : Int))) then (match v14[(v13 : Int).toNat]? with | some x20 => (bif (decide (0 ≤ v13) && decide (v13 < (v14.length : Int))) then (match v14[(v13 : Int).toNat]? with | some x21 => (bif (decide (0 ≤ (IntKind.i64.wrap (v13 + 1))) && decide ((IntKind.i64.wrap (v13 + 1)) < ((v14.set (v13 : Int).toNat x19).length : Int))) then (match (v14.set (v13 : Int).toNat x19)[((IntKind.i64.wrap (v13 + 1)) : Int).toNat]? with | some x22 => L87_9 N n v12 ((IntKind.i64.wrap (v13 + 1))) (((v14.set (v13 : Int).toNat x19).set ((IntKind.i64.wrap (v13 + 1)) : Int).toNat x20)) e0 | none => none) else none) | none => none) else none) | none => none) else none) | none => none) else none) else e0 v14)
def L87_15 : Nat → Nat → Int → Int → Int → List (G_Contact) → {R : Type} → (Int → Int → List (G_Contact) → Option R) → Option R
  | _, 0, _, _, _, _, _, _ => none
  | N, n + 1, v24, v25, v26, v27, _, e0 => (bif (decide (v25 < v26)) then none else e0 v24 v25 v27)
def L87_21 : Nat → Nat → Int → Int → List (G_Contact) → {R : Type} → (List (G_Contact) → Option R) → Option R
  | _, 0, _, _, _, _, _ => none
  | N, n + 1, v31, v32, v33, _, e0 => (bif (decide (v32 > v31)) then (bif (decide (0 ≤ (IntKind.i64.wrap (v32 - 1))) && decide ((IntKind.i64.wrap (v32 - 1)) < (v33.length : Int))) then (match v33[((IntKind.i64.wrap (v32 - 1)) : Int).toNat]? with | some x38 => (bif (decide (0 ≤ v32) && decide (v32 < (v33.length : Int))) then (match v33[(v32 : Int).toNat]? with | some x39 => (bif (decide (0 ≤ v32) && decide (v32 < (v33.length : Int))) then (match v33[(v32 : Int).toNat]? with | some x40 => (bif (decide (0 ≤ (IntKind.i64.wrap (v32 - 1))) && decide ((IntKind.i64.wrap (v32 - 1)) < ((v33.set (v32 : Int).toNat x38).length : Int))) then (match (v33.set (v32 : Int).toNat x38)[((IntKind.i64.wrap (v32 - 1)) : Int).toNat]? with | some x41 => L87_21 N n v31 ((IntKind.i64.wrap (v32 - 1))) (((v33.set (v32 : Int).toNat x38).set ((IntKind.i64.wrap (v32 - 1)) : Int).toNat x39)) e0 | none => none) else none) | none => none) else none) | none => none) else none) | none => none) else none) else e0 v33)
abbrev TF87 : Type 1 := List (G_Contact) → Int → Int → Int → {R : Type} → (List (G_Contact) → Option R) → Option R
def F87_ (N : Nat) (a1 : List (G_Contact)) (a2 : Int) (a3 : Int) (a4 : Int) {R : Type} (k0 : List (G_Contact) → Option R) : Option R :=
  (bif ((IntKind.i64.wrap (a3 - a2)) == 1) then (L87_3 N N a2 a3 a4 a1 (fun e9 e10 e11 => (L87_9 N N e10 e9 e11 (fun e23 => k0 e23)))) else (bif ((IntKind.i64.wrap (a4 - a3)) == 1) then (L87_15 N N a3 a2 a3 a1 (fun e28 e29 e30 => (L87_21 N N e29 e28 e30 (fun e42 => k0 e42)))) else none))
def F87 (N : Nat) : TF87 := @F87_ N
def p_F87 (args : List (IV A)) : Bool := match args with | [.arr 58 _, .d (.int .i64 _), .d (.int .i64 _), .d (.int .i64 _), .fn 39 []] => true | _ => false
def SS_F87 (g : TF87) : Spec A := fun args _ k => match args with | [.arr 58 a1, .d (.int .i64 a2), .d (.int .i64 a3), .d (.int .i64 a4), .fn 39 []] => g a1 a2 a3 a4 (fun z0 => k (.tup []) [.arr 58 z0, .undef, .undef, .undef, .fn 39 []]) | _ => none
def S_F87 (N : Nat) : Spec A := SS_F87 (F87 N)
def sh_L87_3 : SSt := { fr := sparse .undef 220 [(0, .own 58 0), (1, .int .i64), (4, .fn 39 []), (10, .int .i64), (11, .int .i64)], st := sparse .none 1 [(0, .row 58)] }
def LP_L87_3 (N n : Nat) (ps : List (Pv A)) {R : Type} (K : Ex → St A → Option R) : Option R := match ps with | [.d (.int .i64 p0), .d (.int .i64 p1), .d (.int .i64 p2), .d (.sl 58 p3)] => L87_3 N n p0 p1 p2 p3 (fun z0 z1 z2 => K (.exit 0) { fr := sparse .undef 220 [(0, .own 58 0), (1, .d (.int .i64 z0)), (4, .fn 39 []), (10, .d (.int .i64 z1))], st := sparse none 1 [(0, some (.row 58 z2))] }) | _ => none
def LS_L87_3 (N n : Nat) : Piece A := fun S _ K => match decSt sh_L87_3 S with | some ps => LP_L87_3 N n ps K | none => none
def sh_L87_9 : SSt := { fr := sparse .undef 220 [(0, .own 58 0), (4, .fn 39 []), (10, .int .i64), (13, .int .i64)], st := sparse .none 1 [(0, .row 58)] }
def LP_L87_9 (N n : Nat) (ps : List (Pv A)) {R : Type} (K : Ex → St A → Option R) : Option R := match ps with | [.d (.int .i64 p0), .d (.int .i64 p1), .d (.sl 58 p2)] => L87_9 N n p0 p1 p2 (fun z0 => K (.exit 2) { fr := sparse .undef 220 [(0, .own 58 0), (4, .fn 39 [])], st := sparse none 1 [(0, some (.row 58 z0))] }) | _ => none
def LS_L87_9 (N n : Nat) : Piece A := fun S _ K => match decSt sh_L87_9 S with | some ps => LP_L87_9 N n ps K | none => none
def sh_L87_15 : SSt := { fr := sparse .undef 220 [(0, .own 58 0), (2, .int .i64), (4, .fn 39 []), (14, .int .i64), (15, .int .i64)], st := sparse .none 1 [(0, .row 58)] }
def LP_L87_15 (N n : Nat) (ps : List (Pv A)) {R : Type} (K : Ex → St A → Option R) : Option R := match ps with | [.d (.int .i64 p0), .d (.int .i64 p1), .d (.int .i64 p2), .d (.sl 58 p3)] => L87_15 N n p0 p1 p2 p3 (fun z0 z1 z2 => K (.exit 4) { fr := sparse .undef 220 [(0, .own 58 0), (2, .d (.int .i64 z0)), (4, .fn 39 []), (14, .d (.int .i64 z1))], st := sparse none 1 [(0, some (.row 58 z2))] }) | _ => none
def LS_L87_15 (N n : Nat) : Piece A := fun S _ K => match decSt sh_L87_15 S with | some ps => LP_L87_15 N n ps K | none => none
def sh_L87_21 : SSt := { fr := sparse .undef 220 [(0, .own 58 0), (4, .fn 39 []), (14, .int .i64), (17, .int .i64)], st := sparse .none 1 [(0, .row 58)] }
def LP_L87_21 (N n : Nat) (ps : List (Pv A)) {R : Type} (K : Ex → St A → Option R) : Option R := match ps with | [.d (.int .i64 p0), .d (.int .i64 p1), .d (.sl 58 p2)] => L87_21 N n p0 p1 p2 (fun z0 => K (.exit 6) { fr := sparse .undef 220 [(0, .own 58 0), (4, .fn 39 [])], st := sparse none 1 [(0, some (.row 58 z0))] }) | _ => none
def LS_L87_21 (N n : Nat) : Piece A := fun S _ K => match decSt sh_L87_21 S with | some ps => LP_L87_21 N n ps K | none => none
noncomputable def code_87 : Code := (Tryz.f87.body).getD .skip
def C_F87_ : List (Nat × Spec A) := []
def C_F87 (N : Nat) : List (Nat × Spec A) := C_F87_
noncomputable def E_F87_ (N : Nat) : Env A := { P := Tryz.prog, T := T, C := fun f => (C_F87_).lookup f, tg := fun d => ([].lookup d).getD [], seqH := fun _ => none, loopH := fun i => [(3, ({ keep := [0, 1, 4, 10, 11], canon := [], stay := [0] } : Hint)), (9, ({ keep := [0, 4, 10, 13], canon := [], stay := [0] } : Hint)), (15, ({ keep := [0, 2, 4, 14, 15], canon := [], stay := [0] } : Hint)), (21, ({ keep := [0, 4, 14, 17], canon := [], stay := [0] } : Hint))].lookup i, exitH := fun i => [(3, ({ keep := [0, 1, 4, 10], canon := [], stay := [0] } : Hint)), (9, ({ keep := [0, 4], canon := [], stay := [0] } : Hint)), (15, ({ keep := [0, 2, 4, 14], canon := [], stay := [0] } : Hint)), (21, ({ keep := [0, 4], canon := [], stay := [0] } : Hint))].lookup i, cutL := fun i => [(3, LS_L87_3 N N), (9, LS_L87_9 N N), (15, LS_L87_15 N N), (21, LS_L87_21 N N)].lookup i, mode := fun f i => [].contains (f, i), keyed := keyT, flat := flatT, pin := [0, 4] }
noncomputable def E_F87 (N : Nat) : Env A := E_F87_ N
theorem tg_F87 (N : Nat) (a1 : List (G_Contact)) (a2 : Int) (a3 : Int) (a4 : Int) (R : Type) (k : IV A → List (IV A) → Option R) : abody (E_F87_ N) Tryz.f87 code_87 1 [0] [] N [.arr 58 a1, .d (.int .i64 a2), .d (.int .i64 a3), .d (.int .i64 a4), .fn 39 []] k = SS_F87 (@F87_ N) [.arr 58 a1, .d (.int .i64 a2), .d (.int .i64 a3), .d (.int .i64 a4), .fn 39 []] k := by kernel_rfl
theorem t_F87 (N : Nat) (a1 : List (G_Contact)) (a2 : Int) (a3 : Int) (a4 : Int) (R : Type) (k : IV A → List (IV A) → Option R) : abody (E_F87 N) Tryz.f87 code_87 1 [0] [] N [.arr 58 a1, .d (.int .i64 a2), .d (.int .i64 a3), .d (.int .i64 a4), .fn 39 []] k = S_F87 N [.arr 58 a1, .d (.int .i64 a2), .d (.int .i64 a3), .d (.int .i64 a4), .fn 39 []] k := tg_F87 N a1 a2 a3 a4 R k
noncomputable def cb_L87_3 : Code := sub [0, 1, 0, 1, 1, 0, 0, 0] code_87
noncomputable def bd_L87_3 (N : Nat) : Piece A := around (fun S _ K => aexec (E_F87_ N) N cb_L87_3 S K) ((firstReg cb_L87_3).bind (E_F87_ N).loopH) ((firstReg cb_L87_3).bind (E_F87_ N).exitH)
theorem b_L87_3 (N n : Nat) (p0 : Int) (p1 : Int) (p2 : Int) (p3 : List (G_Contact)) (R : Type) (K : Ex → St A → Option R) : bd_L87_3 N { fr := sparse .undef 220 [(0, .own 58 0), (1, .d (.int .i64 p0)), (4, .fn 39 []), (10, .d (.int .i64 p1)), (11, .d (.int .i64 p2))], st := sparse none 1 [(0, some (.row 58 p3))] } (fun e S' => match e with | .normal => LS_L87_3 N n S' K | e => K e S') = LP_L87_3 N (n + 1) [.d (.int .i64 p0), .d (.int .i64 p1), .d (.int .i64 p2), .d (.sl 58 p3)] K := by kernel_rfl
theorem m_L87_3 (ps : List (Pv A)) : (∀ (N n : Nat) (R : Type) (K : Ex → St A → Option R), LP_L87_3 N n ps K = none) ∨ ∃ (p0 : Int) (p1 : Int) (p2 : Int) (p3 : List (G_Contact)), ps = [.d (.int .i64 p0), .d (.int .i64 p1), .d (.int .i64 p2), .d (.sl 58 p3)] := by
  by_cases h : ∃ (p0 : Int) (p1 : Int) (p2 : Int) (p3 : List (G_Contact)), ps = [.d (.int .i64 p0), .d (.int .i64 p1), .d (.int .i64 p2), .d (.sl 58 p3)]
  · exact .inr h
  · refine .inl (fun N n R K => ?_)
    unfold LP_L87_3
    split
    · exact absurd ⟨_, _, _, _, rfl⟩ h
    · rfl
theorem s_L87_3 (N n : Nat) (S : St A) : (∀ (R : Type) (K : Ex → St A → Option R), LS_L87_3 N (n + 1) S K = none) ∨ ∀ (R : Type) (K : Ex → St A → Option R), LS_L87_3 N (n + 1) S K = bd_L87_3 N S (fun e S' => match e with | .normal => LS_L87_3 N n S' K | e => K e S') := by
  cases hd : decSt sh_L87_3 S with
  | none => exact .inl (fun R K => by unfold LS_L87_3; rw [hd])
  | some ps =>
    have he := decSt_enc hd
    rcases m_L87_3 ps with h | ⟨p0, p1, p2, p3, rfl⟩
    · exact .inl (fun R K => by unfold LS_L87_3; rw [hd]; exact h N (n + 1) R K)
    · have hS : encSt (A := A) sh_L87_3 [.d (.int .i64 p0), .d (.int .i64 p1), .d (.int .i64 p2), .d (.sl 58 p3)] = some { fr := sparse .undef 220 [(0, .own 58 0), (1, .d (.int .i64 p0)), (4, .fn 39 []), (10, .d (.int .i64 p1)), (11, .d (.int .i64 p2))], st := sparse none 1 [(0, some (.row 58 p3))] } := by kernel_rfl
      rw [hS] at he
      obtain rfl := Option.some.inj he
      refine .inr (fun R K => ?_)
      rw [b_L87_3]
      unfold LS_L87_3
      rw [hd]
theorem z_L87_3 (N : Nat) (R : Type) (S : St A) (K : Ex → St A → Option R) : LS_L87_3 N 0 S K = none := by
  unfold LS_L87_3
  cases decSt sh_L87_3 S with
  | none => rfl
  | some ps =>
    simp only
    unfold LP_L87_3
    split <;> (try unfold L87_3) <;> rfl
noncomputable def cb_L87_9 : Code := sub [0, 1, 0, 1, 1, 1, 0, 1, 0, 0] code_87
noncomputable def bd_L87_9 (N : Nat) : Piece A := around (fun S _ K => aexec (E_F87_ N) N cb_L87_9 S K) ((firstReg cb_L87_9).bind (E_F87_ N).loopH) ((firstReg cb_L87_9).bind (E_F87_ N).exitH)
theorem b_L87_9 (N n : Nat) (p0 : Int) (p1 : Int) (p2 : List (G_Contact)) (R : Type) (K : Ex → St A → Option R) : bd_L87_9 N { fr := sparse .undef 220 [(0, .own 58 0), (4, .fn 39 []), (10, .d (.int .i64 p0)), (13, .d (.int .i64 p1))], st := sparse none 1 [(0, some (.row 58 p2))] } (fun e S' => match e with | .normal => LS_L87_9 N n S' K | e => K e S') = LP_L87_9 N (n + 1) [.d (.int .i64 p0), .d (.int .i64 p1), .d (.sl 58 p2)] K := by kernel_rfl
theorem m_L87_9 (ps : List (Pv A)) : (∀ (N n : Nat) (R : Type) (K : Ex → St A → Option R), LP_L87_9 N n ps K = none) ∨ ∃ (p0 : Int) (p1 : Int) (p2 : List (G_Contact)), ps = [.d (.int .i64 p0), .d (.int .i64 p1), .d (.sl 58 p2)] := by
  by_cases h : ∃ (p0 : Int) (p1 : Int) (p2 : List (G_Contact)), ps = [.d (.int .i64 p0), .d (.int .i64 p1), .d (.sl 58 p2)]
  · exact .inr h
  · refine .inl (fun N n R K => ?_)
    unfold LP_L87_9
    split
    · exact absurd ⟨_, _, _, rfl⟩ h
    · rfl
theorem s_L87_9 (N n : Nat) (S : St A) : (∀ (R : Type) (K : Ex → St A → Option R), LS_L87_9 N (n + 1) S K = none) ∨ ∀ (R : Type) (K : Ex → St A → Option R), LS_L87_9 N (n + 1) S K = bd_L87_9 N S (fun e S' => match e with | .normal => LS_L87_9 N n S' K | e => K e S') := by
  cases hd : decSt sh_L87_9 S with
  | none => exact .inl (fun R K => by unfold LS_L87_9; rw [hd])
  | some ps =>
    have he := decSt_enc hd
    rcases m_L87_9 ps with h | ⟨p0, p1, p2, rfl⟩
    · exact .inl (fun R K => by unfold LS_L87_9; rw [hd]; exact h N (n + 1) R K)
    · have hS : encSt (A := A) sh_L87_9 [.d (.int .i64 p0), .d (.int .i64 p1), .d (.sl 58 p2)] = some { fr := sparse .undef 220 [(0, .own 58 0), (4, .fn 39 []), (10, .d (.int .i64 p0)), (13, .d (.int .i64 p1))], st := sparse none 1 [(0, some (.row 58 p2))] } := by kernel_rfl
      rw [hS] at he
      obtain rfl := Option.some.inj he
      refine .inr (fun R K => ?_)
      rw [b_L87_9]
      unfold LS_L87_9
      rw [hd]
theorem z_L87_9 (N : Nat) (R : Type) (S : St A) (K : Ex → St A → Option R) : LS_L87_9 N 0 S K = none := by
  unfold LS_L87_9
  cases decSt sh_L87_9 S with
  | none => rfl
  | some ps =>
    simp only
    unfold LP_L87_9
    split <;> (try unfold L87_9) <;> rfl
noncomputable def cb_L87_15 : Code := sub [1, 0, 1, 0, 1, 1, 0, 0, 0] code_87
noncomputable def bd_L87_15 (N : Nat) : Piece A := around (fun S _ K => aexec (E_F87_ N) N cb_L87_15 S K) ((firstReg cb_L87_15).bind (E_F87_ N).loopH) ((firstReg cb_L87_15).bind (E_F87_ N).exitH)
theorem b_L87_15 (N n : Nat) (p0 : Int) (p1 : Int) (p2 : Int) (p3 : List (G_Contact)) (R : Type) (K : Ex → St A → Option R) : bd_L87_15 N { fr := sparse .undef 220 [(0, .own 58 0), (2, .d (.int .i64 p0)), (4, .fn 39 []), (14, .d (.int .i64 p1)), (15, .d (.int .i64 p2))], st := sparse none 1 [(0, some (.row 58 p3))] } (fun e S' => match e with | .normal => LS_L87_15 N n S' K | e => K e S') = LP_L87_15 N (n + 1) [.d (.int .i64 p0), .d (.int .i64 p1), .d (.int .i64 p2), .d (.sl 58 p3)] K := by kernel_rfl
theorem m_L87_15 (ps : List (Pv A)) : (∀ (N n : Nat) (R : Type) (K : Ex → St A → Option R), LP_L87_15 N n ps K = none) ∨ ∃ (p0 : Int) (p1 : Int) (p2 : Int) (p3 : List (G_Contact)), ps = [.d (.int .i64 p0), .d (.int .i64 p1), .d (.int .i64 p2), .d (.sl 58 p3)] := by
  by_cases h : ∃ (p0 : Int) (p1 : Int) (p2 : Int) (p3 : List (G_Contact)), ps = [.d (.int .i64 p0), .d (.int .i64 p1), .d (.int .i64 p2), .d (.sl 58 p3)]
  · exact .inr h
  · refine .inl (fun N n R K => ?_)
    unfold LP_L87_15
    split
    · exact absurd ⟨_, _, _, _, rfl⟩ h
    · rfl
theorem s_L87_15 (N n : Nat) (S : St A) : (∀ (R : Type) (K : Ex → St A → Option R), LS_L87_15 N (n + 1) S K = none) ∨ ∀ (R : Type) (K : Ex → St A → Option R), LS_L87_15 N (n + 1) S K = bd_L87_15 N S (fun e S' => match e with | .normal => LS_L87_15 N n S' K | e => K e S') := by
  cases hd : decSt sh_L87_15 S with
  | none => exact .inl (fun R K => by unfold LS_L87_15; rw [hd])
  | some ps =>
    have he := decSt_enc hd
    rcases m_L87_15 ps with h | ⟨p0, p1, p2, p3, rfl⟩
    · exact .inl (fun R K => by unfold LS_L87_15; rw [hd]; exact h N (n + 1) R K)
    · have hS : encSt (A := A) sh_L87_15 [.d (.int .i64 p0), .d (.int .i64 p1), .d (.int .i64 p2), .d (.sl 58 p3)] = some { fr := sparse .undef 220 [(0, .own 58 0), (2, .d (.int .i64 p0)), (4, .fn 39 []), (14, .d (.int .i64 p1)), (15, .d (.int .i64 p2))], st := sparse none 1 [(0, some (.row 58 p3))] } := by kernel_rfl
      rw [hS] at he
      obtain rfl := Option.some.inj he
      refine .inr (fun R K => ?_)
      rw [b_L87_15]
      unfold LS_L87_15
      rw [hd]
theorem z_L87_15 (N : Nat) (R : Type) (S : St A) (K : Ex → St A → Option R) : LS_L87_15 N 0 S K = none := by
  unfold LS_L87_15
  cases decSt sh_L87_15 S with
  | none => rfl
  | some ps =>
    simp only
    unfold LP_L87_15
    split <;> (try unfold L87_15) <;> rfl
noncomputable def cb_L87_21 : Code := sub [1, 0, 1, 0, 1, 1, 1, 0, 1, 0, 0] code_87
noncomputable def bd_L87_21 (N : Nat) : Piece A := around (fun S _ K => aexec (E_F87_ N) N cb_L87_21 S K) ((firstReg cb_L87_21).bind (E_F87_ N).loopH) ((firstReg cb_L87_21).bind (E_F87_ N).exitH)
theorem b_L87_21 (N n : Nat) (p0 : Int) (p1 : Int) (p2 : List (G_Contact)) (R : Type) (K : Ex → St A → Option R) : bd_L87_21 N { fr := sparse .undef 220 [(0, .own 58 0), (4, .fn 39 []), (14, .d (.int .i64 p0)), (17, .d (.int .i64 p1))], st := sparse none 1 [(0, some (.row 58 p2))] } (fun e S' => match e with | .normal => LS_L87_21 N n S' K | e => K e S') = LP_L87_21 N (n + 1) [.d (.int .i64 p0), .d (.int .i64 p1), .d (.sl 58 p2)] K := by kernel_rfl
theorem m_L87_21 (ps : List (Pv A)) : (∀ (N n : Nat) (R : Type) (K : Ex → St A → Option R), LP_L87_21 N n ps K = none) ∨ ∃ (p0 : Int) (p1 : Int) (p2 : List (G_Contact)), ps = [.d (.int .i64 p0), .d (.int .i64 p1), .d (.sl 58 p2)] := by
  by_cases h : ∃ (p0 : Int) (p1 : Int) (p2 : List (G_Contact)), ps = [.d (.int .i64 p0), .d (.int .i64 p1), .d (.sl 58 p2)]
  · exact .inr h
  · refine .inl (fun N n R K => ?_)
    unfold LP_L87_21
    split
    · exact absurd ⟨_, _, _, rfl⟩ h
    · rfl
theorem s_L87_21 (N n : Nat) (S : St A) : (∀ (R : Type) (K : Ex → St A → Option R), LS_L87_21 N (n + 1) S K = none) ∨ ∀ (R : Type) (K : Ex → St A → Option R), LS_L87_21 N (n + 1) S K = bd_L87_21 N S (fun e S' => match e with | .normal => LS_L87_21 N n S' K | e => K e S') := by
  cases hd : decSt sh_L87_21 S with
  | none => exact .inl (fun R K => by unfold LS_L87_21; rw [hd])
  | some ps =>
    have he := decSt_enc hd
    rcases m_L87_21 ps with h | ⟨p0, p1, p2, rfl⟩
    · exact .inl (fun R K => by unfold LS_L87_21; rw [hd]; exact h N (n + 1) R K)
    · have hS : encSt (A := A) sh_L87_21 [.d (.int .i64 p0), .d (.int .i64 p1), .d (.sl 58 p2)] = some { fr := sparse .undef 220 [(0, .own 58 0), (4, .fn 39 []), (14, .d (.int .i64 p0)), (17, .d (.int .i64 p1))], st := sparse none 1 [(0, some (.row 58 p2))] } := by kernel_rfl
      rw [hS] at he
      obtain rfl := Option.some.inj he
      refine .inr (fun R K => ?_)
      rw [b_L87_21]
      unfold LS_L87_21
      rw [hd]
theorem z_L87_21 (N : Nat) (R : Type) (S : St A) (K : Ex → St A → Option R) : LS_L87_21 N 0 S K = none := by
  unfold LS_L87_21
  cases decSt sh_L87_21 S with
  | none => rfl
  | some ps =>
    simp only
    unfold LP_L87_21
    split <;> (try unfold L87_21) <;> rfl
theorem en_87 : Enters Tryz.prog 87 := enters_of (fn := Tryz.f87) (by kernel_rfl) (by kernel_rfl) (by kernel_rfl)
theorem en_F87 : Enters Tryz.prog 87 := en_87
theorem tl_F87 (N : Nat) : TabL Tryz.prog T (C_F87 N) := .nil
theorem nl_F87 (N : Nat) : NatL (C_F87 N) := .nil
theorem ct_F87 (N : Nat) : NatTab (E_F87 N).C := tab_nat (l := C_F87 N) (nl_F87 N)
theorem eo_F87 (N : Nat) : EnvOk (E_F87 N) := ⟨tyOk Tryz.prog, tab_sound (l := C_F87 N) (tl_F87 N), flatOk, keysOk⟩
noncomputable def cb_L87_33 : Code := sub [1, 1, 1, 1, 1, 1, 1, 0, 0, 0] code_87
theorem ce_L87_33 (N : Nat) : (firstReg cb_L87_33).bind (E_F87 N).cutL = none := by kernel_rfl
theorem lf_L87_33 (N : Nat) : LoopFine (E_F87 N) N cb_L87_33 := fun f hf => by rw [ce_L87_33] at hf; cases hf
theorem ll_L87_3 : loopsOf cb_L87_3 = [] := by kernel_rfl
theorem fi_L87_3 (N : Nat) : FineL (E_F87 N) N [] := .nil
theorem cc_L87_3 (N : Nat) : CutsOk (E_F87 N) N cb_L87_3 := cuts_of (fun _ => rfl) cb_L87_3 (by rw [ll_L87_3]; exact fi_L87_3 N)
theorem cg_L87_3 (N : Nat) : (firstReg cb_L87_3).bind (E_F87_ N).cutL = some (LS_L87_3 N N) := by kernel_rfl
theorem ce_L87_3 (N : Nat) : (firstReg cb_L87_3).bind (E_F87 N).cutL = some (LS_L87_3 N N) := cg_L87_3 N
theorem lf_L87_3 (N : Nat) : LoopFine (E_F87 N) N cb_L87_3 := fine_of (LS_L87_3 N) (ce_L87_3 N) (ct_F87 N) (cc_L87_3 N) (z_L87_3 N) (s_L87_3 N)
theorem ll_L87_9 : loopsOf cb_L87_9 = [] := by kernel_rfl
theorem fi_L87_9 (N : Nat) : FineL (E_F87 N) N [] := .nil
theorem cc_L87_9 (N : Nat) : CutsOk (E_F87 N) N cb_L87_9 := cuts_of (fun _ => rfl) cb_L87_9 (by rw [ll_L87_9]; exact fi_L87_9 N)
theorem cg_L87_9 (N : Nat) : (firstReg cb_L87_9).bind (E_F87_ N).cutL = some (LS_L87_9 N N) := by kernel_rfl
theorem ce_L87_9 (N : Nat) : (firstReg cb_L87_9).bind (E_F87 N).cutL = some (LS_L87_9 N N) := cg_L87_9 N
theorem lf_L87_9 (N : Nat) : LoopFine (E_F87 N) N cb_L87_9 := fine_of (LS_L87_9 N) (ce_L87_9 N) (ct_F87 N) (cc_L87_9 N) (z_L87_9 N) (s_L87_9 N)
theorem ll_L87_15 : loopsOf cb_L87_15 = [] := by kernel_rfl
theorem fi_L87_15 (N : Nat) : FineL (E_F87 N) N [] := .nil
theorem cc_L87_15 (N : Nat) : CutsOk (E_F87 N) N cb_L87_15 := cuts_of (fun _ => rfl) cb_L87_15 (by rw [ll_L87_15]; exact fi_L87_15 N)
theorem cg_L87_15 (N : Nat) : (firstReg cb_L87_15).bind (E_F87_ N).cutL = some (LS_L87_15 N N) := by kernel_rfl
theorem ce_L87_15 (N : Nat) : (firstReg cb_L87_15).bind (E_F87 N).cutL = some (LS_L87_15 N N) := cg_L87_15 N
theorem lf_L87_15 (N : Nat) : LoopFine (E_F87 N) N cb_L87_15 := fine_of (LS_L87_15 N) (ce_L87_15 N) (ct_F87 N) (cc_L87_15 N) (z_L87_15 N) (s_L87_15 N)
theorem ll_L87_21 : loopsOf cb_L87_21 = [] := by kernel_rfl
theorem fi_L87_21 (N : Nat) : FineL (E_F87 N) N [] := .nil
theorem cc_L87_21 (N : Nat) : CutsOk (E_F87 N) N cb_L87_21 := cuts_of (fun _ => rfl) cb_L87_21 (by rw [ll_L87_21]; exact fi_L87_21 N)
theorem cg_L87_21 (N : Nat) : (firstReg cb_L87_21).bind (E_F87_ N).cutL = some (LS_L87_21 N N) := by kernel_rfl
theorem ce_L87_21 (N : Nat) : (firstReg cb_L87_21).bind (E_F87 N).cutL = some (LS_L87_21 N N) := cg_L87_21 N
theorem lf_L87_21 (N : Nat) : LoopFine (E_F87 N) N cb_L87_21 := fine_of (LS_L87_21 N) (ce_L87_21 N) (ct_F87 N) (cc_L87_21 N) (z_L87_21 N) (s_L87_21 N)
theorem ll_F87 : loopsOf code_87 = [cb_L87_3, cb_L87_9, cb_L87_15, cb_L87_21, cb_L87_33] := by kernel_rfl
theorem fi_F87 (N : Nat) : FineL (E_F87 N) N [cb_L87_3, cb_L87_9, cb_L87_15, cb_L87_21, cb_L87_33] := (.cons (lf_L87_3 N) (.cons (lf_L87_9 N) (.cons (lf_L87_15 N) (.cons (lf_L87_21 N) (.cons (lf_L87_33 N) .nil)))))
theorem cc_F87 (N : Nat) : CutsOk (E_F87 N) N code_87 := cuts_of (fun _ => rfl) code_87 (by rw [ll_F87]; exact fi_F87 N)
theorem v_F87 (args : List (IV A)) : (∀ (N : Nat) (R : Type) (k : IV A → List (IV A) → Option R), S_F87 N args k = none) ∨ ∃ (a1 : List (G_Contact)) (a2 : Int) (a3 : Int) (a4 : Int), args = [.arr 58 a1, .d (.int .i64 a2), .d (.int .i64 a3), .d (.int .i64 a4), .fn 39 []] := by
  by_cases h : ∃ (a1 : List (G_Contact)) (a2 : Int) (a3 : Int) (a4 : Int), args = [.arr 58 a1, .d (.int .i64 a2), .d (.int .i64 a3), .d (.int .i64 a4), .fn 39 []]
  · exact .inr h
  · refine .inl (fun N R k => ?_)
    unfold S_F87 SS_F87
    split
    · exact absurd ⟨_, _, _, _, rfl⟩ h
    · rfl
theorem sm_F87 (N : Nat) : Same (S_F87 N) (abody (E_F87 N) Tryz.f87 code_87 1 [0] [] N) := by
  intro args
  rcases v_F87 args with h | ⟨a1, a2, a3, a4, rfl⟩
  · exact .inl (h N)
  · exact .inr (fun R k => (t_F87 N a1 a2 a3 a4 R k).symm)
theorem fu_87 : Tryz.prog.funcs[87]? = some Tryz.f87 := by kernel_rfl
theorem bo_87 : Tryz.f87.body = some code_87 := by kernel_rfl
theorem fs_F87 (N : Nat) : FnSound Tryz.prog T 87 (S_F87 N) := fs_of (E_F87 N) rfl rfl (eo_F87 N) (ct_F87 N) mixed fu_87 bo_87 1 [0] [] N (cc_F87 N) (sm_F87 N)
theorem na_F87 (N : Nat) : NatSpec (S_F87 N) := na_of (E_F87 N) (ct_F87 N) Tryz.f87 code_87 1 [0] [] N (cc_F87 N) (sm_F87 N)
def L72_2 (g86 : TF86) (g87 : TF87) : Nat → Nat → Int → Int → Int → Int → List (G_Contact) → {R : Type} → (Int → Int → Int → List (G_Contact) → Option R) → Option R
  | _, 0, _, _, _, _, _, _, _ => none
  | N, n + 1, v3, v4, v5, v6, v7, _, e0 => (bif (decide (v6 ≤ v3)) then (g86 v7 v5 v6 (fun r9 => L72_2 g86 g87 N n v3 v4 v6 ((IntKind.i64.wrap (v6 + v4))) r9 e0)) else e0 v3 v4 v5 v7)
def L72_9 (g86 : TF86) (g87 : TF87) : Nat → Nat → Int → Int → Int → Int → List (G_Contact) → {R : Type} → (Int → Int → Int → List (G_Contact) → Option R) → Option R
  | _, 0, _, _, _, _, _, _, _ => none
  | N, n + 1, v30, v31, v32, v33, v34, _, e0 => (bif (decide (v33 ≤ v30)) then (g87 v34 v32 ((IntKind.i64.wrap (v32 + v31))) v33 (fun r36 => L72_9 g86 g87 N n v30 v31 v33 ((IntKind.i64.wrap (v33 + (IntKind.i64.wrap (2 * v31))))) r36 e0)) else e0 v30 v31 v32 v34)
def L72_7 (g86 : TF86) (g87 : TF87) : Nat → Nat → Int → Int → List (G_Contact) → {R : Type} → (List (G_Contact) → Option R) → Option R
  | _, 0, _, _, _, _, _ => none
  | N, n + 1, v15, v16, v17, _, e0 => (bif (decide (v16 < v15)) then (L72_9 g86 g87 N N v15 v16 0 ((IntKind.i64.wrap (2 * v16))) v17 (fun e37 e38 e39 e40 => (bif (decide ((IntKind.i64.wrap (e39 + e38)) < e37)) then (g87 e40 e39 ((IntKind.i64.wrap (e39 + e38))) e37 (fun r41 => L72_7 g86 g87 N n e37 ((IntKind.i64.wrap (e38 * 2))) r41 e0)) else L72_7 g86 g87 N n e37 ((IntKind.i64.wrap (e38 * 2))) e40 e0))) else e0 v17)
abbrev TF72 : Type 1 := List (G_Contact) → Int → {R : Type} → (List (G_Contact) → Option R) → Option R
def F72_ (g86 : TF86) (g87 : TF87) (N : Nat) (a1 : List (G_Contact)) (a2 : Int) {R : Type} (k0 : List (G_Contact) → Option R) : Option R :=
  (L72_2 g86 g87 N N a2 20 0 20 a1 (fun e10 e11 e12 e13 => (g86 e13 e12 e10 (fun r14 => (L72_7 g86 g87 N N e10 e11 r14 (fun e42 => k0 e42))))))
def F72 (N : Nat) : TF72 := @F72_ (@F86 N) (@F87 N) N
def p_F72 (args : List (IV A)) : Bool := match args with | [.arr 58 _, .d (.int .i64 _), .fn 39 []] => true | _ => false
def SS_F72 (g : TF72) : Spec A := fun args _ k => match args with | [.arr 58 a1, .d (.int .i64 a2), .fn 39 []] => g a1 a2 (fun z0 => k (.tup []) [.arr 58 z0, .undef, .fn 39 []]) | _ => none
def S_F72 (N : Nat) : Spec A := SS_F72 (F72 N)
def sh_L72_2 : SSt := { fr := sparse .undef 63 [(0, .own 58 0), (1, .int .i64), (2, .fn 39 []), (6, .int .i64), (7, .int .i64), (8, .int .i64)], st := sparse .none 1 [(0, .row 58)] }
def LP_L72_2 (g86 : TF86) (g87 : TF87) (N n : Nat) (ps : List (Pv A)) {R : Type} (K : Ex → St A → Option R) : Option R := match ps with | [.d (.int .i64 p0), .d (.int .i64 p1), .d (.int .i64 p2), .d (.int .i64 p3), .d (.sl 58 p4)] => L72_2 g86 g87 N n p0 p1 p2 p3 p4 (fun z0 z1 z2 z3 => K (.exit 0) { fr := sparse .undef 63 [(0, .own 58 0), (1, .d (.int .i64 z0)), (2, .fn 39 []), (6, .d (.int .i64 z1)), (7, .d (.int .i64 z2))], st := sparse none 1 [(0, some (.row 58 z3))] }) | _ => none
def LS_L72_2 (g86 : TF86) (g87 : TF87) (N n : Nat) : Piece A := fun S _ K => match decSt sh_L72_2 S with | some ps => LP_L72_2 g86 g87 N n ps K | none => none
def sh_L72_9 : SSt := { fr := sparse .undef 63 [(0, .own 58 0), (1, .int .i64), (2, .fn 39 []), (6, .int .i64), (7, .int .i64), (8, .int .i64)], st := sparse .none 1 [(0, .row 58)] }
def LP_L72_9 (g86 : TF86) (g87 : TF87) (N n : Nat) (ps : List (Pv A)) {R : Type} (K : Ex → St A → Option R) : Option R := match ps with | [.d (.int .i64 p0), .d (.int .i64 p1), .d (.int .i64 p2), .d (.int .i64 p3), .d (.sl 58 p4)] => L72_9 g86 g87 N n p0 p1 p2 p3 p4 (fun z0 z1 z2 z3 => K (.exit 4) { fr := sparse .undef 63 [(0, .own 58 0), (1, .d (.int .i64 z0)), (2, .fn 39 []), (6, .d (.int .i64 z1)), (7, .d (.int .i64 z2))], st := sparse none 1 [(0, some (.row 58 z3))] }) | _ => none
def LS_L72_9 (g86 : TF86) (g87 : TF87) (N n : Nat) : Piece A := fun S _ K => match decSt sh_L72_9 S with | some ps => LP_L72_9 g86 g87 N n ps K | none => none
def sh_L72_7 : SSt := { fr := sparse .undef 63 [(0, .own 58 0), (1, .int .i64), (2, .fn 39 []), (6, .int .i64)], st := sparse .none 1 [(0, .row 58)] }
def LP_L72_7 (g86 : TF86) (g87 : TF87) (N n : Nat) (ps : List (Pv A)) {R : Type} (K : Ex → St A → Option R) : Option R := match ps with | [.d (.int .i64 p0), .d (.int .i64 p1), .d (.sl 58 p2)] => L72_7 g86 g87 N n p0 p1 p2 (fun z0 => K (.exit 2) { fr := sparse .undef 63 [(0, .own 58 0), (2, .fn 39 [])], st := sparse none 1 [(0, some (.row 58 z0))] }) | _ => none
def LS_L72_7 (g86 : TF86) (g87 : TF87) (N n : Nat) : Piece A := fun S _ K => match decSt sh_L72_7 S with | some ps => LP_L72_7 g86 g87 N n ps K | none => none
noncomputable def code_72 : Code := (Tryz.f72.body).getD .skip
def C_F72_ (g86 : TF86) (g87 : TF87) : List (Nat × Spec A) := [(86, SS_F86 g86), (87, SS_F87 g87)]
def C_F72 (N : Nat) : List (Nat × Spec A) := C_F72_ (@F86 N) (@F87 N)
noncomputable def E_F72_ (g86 : TF86) (g87 : TF87) (N : Nat) : Env A := { P := Tryz.prog, T := T, C := fun f => (C_F72_ g86 g87).lookup f, tg := fun d => ([].lookup d).getD [], seqH := fun _ => none, loopH := fun i => [(2, ({ keep := [0, 1, 2, 6, 7, 8], canon := [], stay := [0] } : Hint)), (9, ({ keep := [0, 1, 2, 6, 7, 8], canon := [], stay := [0] } : Hint)), (7, ({ keep := [0, 1, 2, 6], canon := [], stay := [0] } : Hint))].lookup i, exitH := fun i => [(2, ({ keep := [0, 1, 2, 6, 7], canon := [], stay := [0] } : Hint)), (9, ({ keep := [0, 1, 2, 6, 7], canon := [], stay := [0] } : Hint)), (7, ({ keep := [0, 2], canon := [], stay := [0] } : Hint))].lookup i, cutL := fun i => [(2, LS_L72_2 g86 g87 N N), (9, LS_L72_9 g86 g87 N N), (7, LS_L72_7 g86 g87 N N)].lookup i, mode := fun f i => [(86, 0), (87, 0)].contains (f, i), keyed := keyT, flat := flatT, pin := [0, 2] }
noncomputable def E_F72 (N : Nat) : Env A := E_F72_ (@F86 N) (@F87 N) N
theorem tg_F72 (g86 : TF86) (g87 : TF87) (N : Nat) (a1 : List (G_Contact)) (a2 : Int) (R : Type) (k : IV A → List (IV A) → Option R) : abody (E_F72_ g86 g87 N) Tryz.f72 code_72 1 [0] [] N [.arr 58 a1, .d (.int .i64 a2), .fn 39 []] k = SS_F72 (@F72_ g86 g87 N) [.arr 58 a1, .d (.int .i64 a2), .fn 39 []] k := by kernel_rfl
theorem t_F72 (N : Nat) (a1 : List (G_Contact)) (a2 : Int) (R : Type) (k : IV A → List (IV A) → Option R) : abody (E_F72 N) Tryz.f72 code_72 1 [0] [] N [.arr 58 a1, .d (.int .i64 a2), .fn 39 []] k = S_F72 N [.arr 58 a1, .d (.int .i64 a2), .fn 39 []] k := tg_F72 (@F86 N) (@F87 N) N a1 a2 R k
noncomputable def cb_L72_2 : Code := sub [1, 1, 0, 0, 0] code_72
noncomputable def bd_L72_2 (g86 : TF86) (g87 : TF87) (N : Nat) : Piece A := around (fun S _ K => aexec (E_F72_ g86 g87 N) N cb_L72_2 S K) ((firstReg cb_L72_2).bind (E_F72_ g86 g87 N).loopH) ((firstReg cb_L72_2).bind (E_F72_ g86 g87 N).exitH)
theorem b_L72_2 (g86 : TF86) (g87 : TF87) (N n : Nat) (p0 : Int) (p1 : Int) (p2 : Int) (p3 : Int) (p4 : List (G_Contact)) (R : Type) (K : Ex → St A → Option R) : bd_L72_2 g86 g87 N { fr := sparse .undef 63 [(0, .own 58 0), (1, .d (.int .i64 p0)), (2, .fn 39 []), (6, .d (.int .i64 p1)), (7, .d (.int .i64 p2)), (8, .d (.int .i64 p3))], st := sparse none 1 [(0, some (.row 58 p4))] } (fun e S' => match e with | .normal => LS_L72_2 g86 g87 N n S' K | e => K e S') = LP_L72_2 g86 g87 N (n + 1) [.d (.int .i64 p0), .d (.int .i64 p1), .d (.int .i64 p2), .d (.int .i64 p3), .d (.sl 58 p4)] K := by kernel_rfl
theorem m_L72_2 (g86 : TF86) (g87 : TF87) (ps : List (Pv A)) : (∀ (N n : Nat) (R : Type) (K : Ex → St A → Option R), LP_L72_2 g86 g87 N n ps K = none) ∨ ∃ (p0 : Int) (p1 : Int) (p2 : Int) (p3 : Int) (p4 : List (G_Contact)), ps = [.d (.int .i64 p0), .d (.int .i64 p1), .d (.int .i64 p2), .d (.int .i64 p3), .d (.sl 58 p4)] := by
  by_cases h : ∃ (p0 : Int) (p1 : Int) (p2 : Int) (p3 : Int) (p4 : List (G_Contact)), ps = [.d (.int .i64 p0), .d (.int .i64 p1), .d (.int .i64 p2), .d (.int .i64 p3), .d (.sl 58 p4)]
  · exact .inr h
  · refine .inl (fun N n R K => ?_)
    unfold LP_L72_2
    split
    · exact absurd ⟨_, _, _, _, _, rfl⟩ h
    · rfl
theorem s_L72_2 (g86 : TF86) (g87 : TF87) (N n : Nat) (S : St A) : (∀ (R : Type) (K : Ex → St A → Option R), LS_L72_2 g86 g87 N (n + 1) S K = none) ∨ ∀ (R : Type) (K : Ex → St A → Option R), LS_L72_2 g86 g87 N (n + 1) S K = bd_L72_2 g86 g87 N S (fun e S' => match e with | .normal => LS_L72_2 g86 g87 N n S' K | e => K e S') := by
  cases hd : decSt sh_L72_2 S with
  | none => exact .inl (fun R K => by unfold LS_L72_2; rw [hd])
  | some ps =>
    have he := decSt_enc hd
    rcases m_L72_2 g86 g87 ps with h | ⟨p0, p1, p2, p3, p4, rfl⟩
    · exact .inl (fun R K => by unfold LS_L72_2; rw [hd]; exact h N (n + 1) R K)
    · have hS : encSt (A := A) sh_L72_2 [.d (.int .i64 p0), .d (.int .i64 p1), .d (.int .i64 p2), .d (.int .i64 p3), .d (.sl 58 p4)] = some { fr := sparse .undef 63 [(0, .own 58 0), (1, .d (.int .i64 p0)), (2, .fn 39 []), (6, .d (.int .i64 p1)), (7, .d (.int .i64 p2)), (8, .d (.int .i64 p3))], st := sparse none 1 [(0, some (.row 58 p4))] } := by kernel_rfl
      rw [hS] at he
      obtain rfl := Option.some.inj he
      refine .inr (fun R K => ?_)
      rw [b_L72_2]
      unfold LS_L72_2
      rw [hd]
theorem z_L72_2 (g86 : TF86) (g87 : TF87) (N : Nat) (R : Type) (S : St A) (K : Ex → St A → Option R) : LS_L72_2 g86 g87 N 0 S K = none := by
  unfold LS_L72_2
  cases decSt sh_L72_2 S with
  | none => rfl
  | some ps =>
    simp only
    unfold LP_L72_2
    split <;> (try unfold L72_2) <;> rfl
noncomputable def cb_L72_9 : Code := sub [1, 1, 1, 1, 0, 0, 1, 0, 1, 0, 0, 0] code_72
noncomputable def bd_L72_9 (g86 : TF86) (g87 : TF87) (N : Nat) : Piece A := around (fun S _ K => aexec (E_F72_ g86 g87 N) N cb_L72_9 S K) ((firstReg cb_L72_9).bind (E_F72_ g86 g87 N).loopH) ((firstReg cb_L72_9).bind (E_F72_ g86 g87 N).exitH)
theorem b_L72_9 (g86 : TF86) (g87 : TF87) (N n : Nat) (p0 : Int) (p1 : Int) (p2 : Int) (p3 : Int) (p4 : List (G_Contact)) (R : Type) (K : Ex → St A → Option R) : bd_L72_9 g86 g87 N { fr := sparse .undef 63 [(0, .own 58 0), (1, .d (.int .i64 p0)), (2, .fn 39 []), (6, .d (.int .i64 p1)), (7, .d (.int .i64 p2)), (8, .d (.int .i64 p3))], st := sparse none 1 [(0, some (.row 58 p4))] } (fun e S' => match e with | .normal => LS_L72_9 g86 g87 N n S' K | e => K e S') = LP_L72_9 g86 g87 N (n + 1) [.d (.int .i64 p0), .d (.int .i64 p1), .d (.int .i64 p2), .d (.int .i64 p3), .d (.sl 58 p4)] K := by kernel_rfl
theorem m_L72_9 (g86 : TF86) (g87 : TF87) (ps : List (Pv A)) : (∀ (N n : Nat) (R : Type) (K : Ex → St A → Option R), LP_L72_9 g86 g87 N n ps K = none) ∨ ∃ (p0 : Int) (p1 : Int) (p2 : Int) (p3 : Int) (p4 : List (G_Contact)), ps = [.d (.int .i64 p0), .d (.int .i64 p1), .d (.int .i64 p2), .d (.int .i64 p3), .d (.sl 58 p4)] := by
  by_cases h : ∃ (p0 : Int) (p1 : Int) (p2 : Int) (p3 : Int) (p4 : List (G_Contact)), ps = [.d (.int .i64 p0), .d (.int .i64 p1), .d (.int .i64 p2), .d (.int .i64 p3), .d (.sl 58 p4)]
  · exact .inr h
  · refine .inl (fun N n R K => ?_)
    unfold LP_L72_9
    split
    · exact absurd ⟨_, _, _, _, _, rfl⟩ h
    · rfl
theorem s_L72_9 (g86 : TF86) (g87 : TF87) (N n : Nat) (S : St A) : (∀ (R : Type) (K : Ex → St A → Option R), LS_L72_9 g86 g87 N (n + 1) S K = none) ∨ ∀ (R : Type) (K : Ex → St A → Option R), LS_L72_9 g86 g87 N (n + 1) S K = bd_L72_9 g86 g87 N S (fun e S' => match e with | .normal => LS_L72_9 g86 g87 N n S' K | e => K e S') := by
  cases hd : decSt sh_L72_9 S with
  | none => exact .inl (fun R K => by unfold LS_L72_9; rw [hd])
  | some ps =>
    have he := decSt_enc hd
    rcases m_L72_9 g86 g87 ps with h | ⟨p0, p1, p2, p3, p4, rfl⟩
    · exact .inl (fun R K => by unfold LS_L72_9; rw [hd]; exact h N (n + 1) R K)
    · have hS : encSt (A := A) sh_L72_9 [.d (.int .i64 p0), .d (.int .i64 p1), .d (.int .i64 p2), .d (.int .i64 p3), .d (.sl 58 p4)] = some { fr := sparse .undef 63 [(0, .own 58 0), (1, .d (.int .i64 p0)), (2, .fn 39 []), (6, .d (.int .i64 p1)), (7, .d (.int .i64 p2)), (8, .d (.int .i64 p3))], st := sparse none 1 [(0, some (.row 58 p4))] } := by kernel_rfl
      rw [hS] at he
      obtain rfl := Option.some.inj he
      refine .inr (fun R K => ?_)
      rw [b_L72_9]
      unfold LS_L72_9
      rw [hd]
theorem z_L72_9 (g86 : TF86) (g87 : TF87) (N : Nat) (R : Type) (S : St A) (K : Ex → St A → Option R) : LS_L72_9 g86 g87 N 0 S K = none := by
  unfold LS_L72_9
  cases decSt sh_L72_9 S with
  | none => rfl
  | some ps =>
    simp only
    unfold LP_L72_9
    split <;> (try unfold L72_9) <;> rfl
noncomputable def cb_L72_7 : Code := sub [1, 1, 1, 1, 0, 0] code_72
noncomputable def bd_L72_7 (g86 : TF86) (g87 : TF87) (N : Nat) : Piece A := around (fun S _ K => aexec (E_F72_ g86 g87 N) N cb_L72_7 S K) ((firstReg cb_L72_7).bind (E_F72_ g86 g87 N).loopH) ((firstReg cb_L72_7).bind (E_F72_ g86 g87 N).exitH)
theorem b_L72_7 (g86 : TF86) (g87 : TF87) (N n : Nat) (p0 : Int) (p1 : Int) (p2 : List (G_Contact)) (R : Type) (K : Ex → St A → Option R) : bd_L72_7 g86 g87 N { fr := sparse .undef 63 [(0, .own 58 0), (1, .d (.int .i64 p0)), (2, .fn 39 []), (6, .d (.int .i64 p1))], st := sparse none 1 [(0, some (.row 58 p2))] } (fun e S' => match e with | .normal => LS_L72_7 g86 g87 N n S' K | e => K e S') = LP_L72_7 g86 g87 N (n + 1) [.d (.int .i64 p0), .d (.int .i64 p1), .d (.sl 58 p2)] K := by kernel_rfl
theorem m_L72_7 (g86 : TF86) (g87 : TF87) (ps : List (Pv A)) : (∀ (N n : Nat) (R : Type) (K : Ex → St A → Option R), LP_L72_7 g86 g87 N n ps K = none) ∨ ∃ (p0 : Int) (p1 : Int) (p2 : List (G_Contact)), ps = [.d (.int .i64 p0), .d (.int .i64 p1), .d (.sl 58 p2)] := by
  by_cases h : ∃ (p0 : Int) (p1 : Int) (p2 : List (G_Contact)), ps = [.d (.int .i64 p0), .d (.int .i64 p1), .d (.sl 58 p2)]
  · exact .inr h
  · refine .inl (fun N n R K => ?_)
    unfold LP_L72_7
    split
    · exact absurd ⟨_, _, _, rfl⟩ h
    · rfl
theorem s_L72_7 (g86 : TF86) (g87 : TF87) (N n : Nat) (S : St A) : (∀ (R : Type) (K : Ex → St A → Option R), LS_L72_7 g86 g87 N (n + 1) S K = none) ∨ ∀ (R : Type) (K : Ex → St A → Option R), LS_L72_7 g86 g87 N (n + 1) S K = bd_L72_7 g86 g87 N S (fun e S' => match e with | .normal => LS_L72_7 g86 g87 N n S' K | e => K e S') := by
  cases hd : decSt sh_L72_7 S with
  | none => exact .inl (fun R K => by unfold LS_L72_7; rw [hd])
  | some ps =>
    have he := decSt_enc hd
    rcases m_L72_7 g86 g87 ps with h | ⟨p0, p1, p2, rfl⟩
    · exact .inl (fun R K => by unfold LS_L72_7; rw [hd]; exact h N (n + 1) R K)
    · have hS : encSt (A := A) sh_L72_7 [.d (.int .i64 p0), .d (.int .i64 p1), .d (.sl 58 p2)] = some { fr := sparse .undef 63 [(0, .own 58 0), (1, .d (.int .i64 p0)), (2, .fn 39 []), (6, .d (.int .i64 p1))], st := sparse none 1 [(0, some (.row 58 p2))] } := by kernel_rfl
      rw [hS] at he
      obtain rfl := Option.some.inj he
      refine .inr (fun R K => ?_)
      rw [b_L72_7]
      unfold LS_L72_7
      rw [hd]
theorem z_L72_7 (g86 : TF86) (g87 : TF87) (N : Nat) (R : Type) (S : St A) (K : Ex → St A → Option R) : LS_L72_7 g86 g87 N 0 S K = none := by
  unfold LS_L72_7
  cases decSt sh_L72_7 S with
  | none => rfl
  | some ps =>
    simp only
    unfold LP_L72_7
    split <;> (try unfold L72_7) <;> rfl
theorem en_72 : Enters Tryz.prog 72 := enters_of (fn := Tryz.f72) (by kernel_rfl) (by kernel_rfl) (by kernel_rfl)
theorem en_F72 : Enters Tryz.prog 72 := en_72
theorem tl_F72 (N : Nat) : TabL Tryz.prog T (C_F72 N) := (.cons (fs_F86 N) en_F86 (.cons (fs_F87 N) en_F87 .nil))
theorem nl_F72 (N : Nat) : NatL (C_F72 N) := (.cons (na_F86 N) (.cons (na_F87 N) .nil))
theorem ct_F72 (N : Nat) : NatTab (E_F72 N).C := tab_nat (l := C_F72 N) (nl_F72 N)
theorem eo_F72 (N : Nat) : EnvOk (E_F72 N) := ⟨tyOk Tryz.prog, tab_sound (l := C_F72 N) (tl_F72 N), flatOk, keysOk⟩
theorem ll_L72_2 : loopsOf cb_L72_2 = [] := by kernel_rfl
theorem fi_L72_2 (N : Nat) : FineL (E_F72 N) N [] := .nil
theorem cc_L72_2 (N : Nat) : CutsOk (E_F72 N) N cb_L72_2 := cuts_of (fun _ => rfl) cb_L72_2 (by rw [ll_L72_2]; exact fi_L72_2 N)
theorem cg_L72_2 (g86 : TF86) (g87 : TF87) (N : Nat) : (firstReg cb_L72_2).bind (E_F72_ g86 g87 N).cutL = some (LS_L72_2 g86 g87 N N) := by kernel_rfl
theorem ce_L72_2 (N : Nat) : (firstReg cb_L72_2).bind (E_F72 N).cutL = some (LS_L72_2 (@F86 N) (@F87 N) N N) := cg_L72_2 (@F86 N) (@F87 N) N
theorem lf_L72_2 (N : Nat) : LoopFine (E_F72 N) N cb_L72_2 := fine_of (LS_L72_2 (@F86 N) (@F87 N) N) (ce_L72_2 N) (ct_F72 N) (cc_L72_2 N) (z_L72_2 (@F86 N) (@F87 N) N) (s_L72_2 (@F86 N) (@F87 N) N)
theorem ll_L72_9 : loopsOf cb_L72_9 = [] := by kernel_rfl
theorem fi_L72_9 (N : Nat) : FineL (E_F72 N) N [] := .nil
theorem cc_L72_9 (N : Nat) : CutsOk (E_F72 N) N cb_L72_9 := cuts_of (fun _ => rfl) cb_L72_9 (by rw [ll_L72_9]; exact fi_L72_9 N)
theorem cg_L72_9 (g86 : TF86) (g87 : TF87) (N : Nat) : (firstReg cb_L72_9).bind (E_F72_ g86 g87 N).cutL = some (LS_L72_9 g86 g87 N N) := by kernel_rfl
theorem ce_L72_9 (N : Nat) : (firstReg cb_L72_9).bind (E_F72 N).cutL = some (LS_L72_9 (@F86 N) (@F87 N) N N) := cg_L72_9 (@F86 N) (@F87 N) N
theorem lf_L72_9 (N : Nat) : LoopFine (E_F72 N) N cb_L72_9 := fine_of (LS_L72_9 (@F86 N) (@F87 N) N) (ce_L72_9 N) (ct_F72 N) (cc_L72_9 N) (z_L72_9 (@F86 N) (@F87 N) N) (s_L72_9 (@F86 N) (@F87 N) N)
theorem ll_L72_7 : loopsOf cb_L72_7 = [cb_L72_9] := by kernel_rfl
theorem fi_L72_7 (N : Nat) : FineL (E_F72 N) N [cb_L72_9] := (.cons (lf_L72_9 N) .nil)
theorem cc_L72_7 (N : Nat) : CutsOk (E_F72 N) N cb_L72_7 := cuts_of (fun _ => rfl) cb_L72_7 (by rw [ll_L72_7]; exact fi_L72_7 N)
theorem cg_L72_7 (g86 : TF86) (g87 : TF87) (N : Nat) : (firstReg cb_L72_7).bind (E_F72_ g86 g87 N).cutL = some (LS_L72_7 g86 g87 N N) := by kernel_rfl
theorem ce_L72_7 (N : Nat) : (firstReg cb_L72_7).bind (E_F72 N).cutL = some (LS_L72_7 (@F86 N) (@F87 N) N N) := cg_L72_7 (@F86 N) (@F87 N) N
theorem lf_L72_7 (N : Nat) : LoopFine (E_F72 N) N cb_L72_7 := fine_of (LS_L72_7 (@F86 N) (@F87 N) N) (ce_L72_7 N) (ct_F72 N) (cc_L72_7 N) (z_L72_7 (@F86 N) (@F87 N) N) (s_L72_7 (@F86 N) (@F87 N) N)
theorem ll_F72 : loopsOf code_72 = [cb_L72_2, cb_L72_9, cb_L72_7] := by kernel_rfl
theorem fi_F72 (N : Nat) : FineL (E_F72 N) N [cb_L72_2, cb_L72_9, cb_L72_7] := (.cons (lf_L72_2 N) (.cons (lf_L72_9 N) (.cons (lf_L72_7 N) .nil)))
theorem cc_F72 (N : Nat) : CutsOk (E_F72 N) N code_72 := cuts_of (fun _ => rfl) code_72 (by rw [ll_F72]; exact fi_F72 N)
theorem v_F72 (args : List (IV A)) : (∀ (N : Nat) (R : Type) (k : IV A → List (IV A) → Option R), S_F72 N args k = none) ∨ ∃ (a1 : List (G_Contact)) (a2 : Int), args = [.arr 58 a1, .d (.int .i64 a2), .fn 39 []] := by
  by_cases h : ∃ (a1 : List (G_Contact)) (a2 : Int), args = [.arr 58 a1, .d (.int .i64 a2), .fn 39 []]
  · exact .inr h
  · refine .inl (fun N R k => ?_)
    unfold S_F72 SS_F72
    split
    · exact absurd ⟨_, _, rfl⟩ h
    · rfl
theorem sm_F72 (N : Nat) : Same (S_F72 N) (abody (E_F72 N) Tryz.f72 code_72 1 [0] [] N) := by
  intro args
  rcases v_F72 args with h | ⟨a1, a2, rfl⟩
  · exact .inl (h N)
  · exact .inr (fun R k => (t_F72 N a1 a2 R k).symm)
theorem fu_72 : Tryz.prog.funcs[72]? = some Tryz.f72 := by kernel_rfl
theorem bo_72 : Tryz.f72.body = some code_72 := by kernel_rfl
theorem fs_F72 (N : Nat) : FnSound Tryz.prog T 72 (S_F72 N) := fs_of (E_F72 N) rfl rfl (eo_F72 N) (ct_F72 N) mixed fu_72 bo_72 1 [0] [] N (cc_F72 N) (sm_F72 N)
theorem na_F72 (N : Nat) : NatSpec (S_F72 N) := na_of (E_F72 N) (ct_F72 N) Tryz.f72 code_72 1 [0] [] N (cc_F72 N) (sm_F72 N)
end Go.Am
