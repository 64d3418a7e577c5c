/- The functions of the program as Lean functions, each shown to be what the code computes, part 9. No condition: lemmas for the claim. -/
import Derived.Test.YthfphbbhjodbcaaGreatDoorF0
import Derived.Test.YthfphbbhjodbcaaGreatDoorFSh
import Derived.Test.YthfphbbhjodbcaaGreatDoorF8
set_option linter.unusedVariables false
set_option maxRecDepth 100000
namespace Go.Am
open Go Go.Proofs
def L15_2 : Nat → Nat → List (Int) → Int → Int → {R : Type} → (Int → Option R) → (Option R) → Option R
  | _, 0, _, _, _, _, _, _ => none
  | N, n + 1, v2, v3, v4, _, e0, e1 => (bif (decide (v4 < v3)) then (bif (decide (0 ≤ v4)) then (match v2[(v4 : Int).toNat]? with | some x6 => (bif (x6 != 0) then e0 x6 else L15_2 N n v2 v3 ((IntKind.i64.wrap (v4 + 1))) e0 e1) | none => none) else none) else e1)
abbrev TF15 : Type 1 := List (Int) → {R : Type} → (Int → Option R) → Option R
def F15_ (N : Nat) (a1 : List (Int)) {R : Type} (k0 : Int → Option R) : Option R :=
  (L15_2 N N a1 (a1.length : Int) 0 (fun e7 => k0 e7) (k0 0))
def F15 (N : Nat) : TF15 := @F15_ N
def p_F15 (args : List (IV A)) : Bool := match args with | [.d (.sl 34 _)] => true | _ => false
def SS_F15 (g : TF15) : Spec A := fun args _ k => match args with | [.d (.sl 34 a1)] => g a1 (fun z0 => k (.d (.int .i64 z0)) [.undef]) | _ => none
def S_F15 (N : Nat) : Spec A := SS_F15 (F15 N)
def sh_L15_2 : SSt := { fr := sparse .undef 15 [(5, .sl 34), (6, .int .i64), (7, .int .i64)], st := sparse .none 0 [] }
def LP_L15_2 (N n : Nat) (ps : List (Pv A)) {R : Type} (K : Ex → St A → Option R) : Option R := match ps with | [.d (.sl 34 p0), .d (.int .i64 p1), .d (.int .i64 p2)] => L15_2 N n p0 p1 p2 (fun z0 => K .ret { fr := sparse .undef 15 [(2, .d (.int .i64 z0))], st := sparse none 0 [] }) (K (.exit 0) { fr := sparse .undef 15 [], st := sparse none 0 [] }) | _ => none
def LS_L15_2 (N n : Nat) : Piece A := fun S _ K => match decSt sh_L15_2 S with | some ps => LP_L15_2 N n ps K | none => none
noncomputable def code_15 : Code := (Tryz.f15.body).getD .skip
def C_F15_ : List (Nat × Spec A) := []
def C_F15 (N : Nat) : List (Nat × Spec A) := C_F15_
noncomputable def E_F15_ (N : Nat) : Env A := { P := Tryz.prog, T := T, C := fun f => (C_F15_).lookup f, tg := fun d => ([].lookup d).getD [], seqH := fun _ => none, loopH := fun i => [(2, ({ keep := [5, 6, 7], canon := [], stay := [] } : Hint))].lookup i, exitH := fun i => [(2, ({ keep := [2], canon := [], stay := [] } : Hint))].lookup i, cutL := fun i => [(2, LS_L15_2 N N)].lookup i, mode := fun f i => [].contains (f, i), keyed := keyT, flat := flatT, pin := [] }
noncomputable def E_F15 (N : Nat) : Env A := E_F15_ N
theorem tg_F15 (N : Nat) (a1 : List (Int)) (R : Type) (k : IV A → List (IV A) → Option R) : abody (E_F15_ N) Tryz.f15 code_15 0 [] [.asis] N [.d (.sl 34 a1)] k = SS_F15 (@F15_ N) [.d (.sl 34 a1)] k := by kernel_rfl
theorem t_F15 (N : Nat) (a1 : List (Int)) (R : Type) (k : IV A → List (IV A) → Option R) : abody (E_F15 N) Tryz.f15 code_15 0 [] [.asis] N [.d (.sl 34 a1)] k = S_F15 N [.d (.sl 34 a1)] k := tg_F15 N a1 R k
noncomputable def cb_L15_2 : Code := sub [1, 0, 1, 0, 0] code_15
noncomputable def bd_L15_2 (N : Nat) : Piece A := around (fun S _ K => aexec (E_F15_ N) N cb_L15_2 S K) ((firstReg cb_L15_2).bind (E_F15_ N).loopH) ((firstReg cb_L15_2).bind (E_F15_ N).exitH)
theorem b_L15_2 (N n : Nat) (p0 : List (Int)) (p1 : Int) (p2 : Int) (R : Type) (K : Ex → St A → Option R) : bd_L15_2 N { fr := sparse .undef 15 [(5, .d (.sl 34 p0)), (6, .d (.int .i64 p1)), (7, .d (.int .i64 p2))], st := sparse none 0 [] } (fun e S' => match e with | .normal => LS_L15_2 N n S' K | e => K e S') = LP_L15_2 N (n + 1) [.d (.sl 34 p0), .d (.int .i64 p1), .d (.int .i64 p2)] K := by kernel_rfl
theorem m_L15_2 (ps : List (Pv A)) : (∀ (N n : Nat) (R : Type) (K : Ex → St A → Option R), LP_L15_2 N n ps K = none) ∨ ∃ (p0 : List (Int)) (p1 : Int) (p2 : Int), ps = [.d (.sl 34 p0), .d (.int .i64 p1), .d (.int .i64 p2)] := by
  by_cases h : ∃ (p0 : List (Int)) (p1 : Int) (p2 : Int), ps = [.d (.sl 34 p0), .d (.int .i64 p1), .d (.int .i64 p2)]
  · exact .inr h
  · refine .inl (fun N n R K => ?_)
    unfold LP_L15_2
    split
    · exact absurd ⟨_, _, _, rfl⟩ h
    · rfl
theorem s_L15_2 (N n : Nat) (S : St A) : (∀ (R : Type) (K : Ex → St A → Option R), LS_L15_2 N (n + 1) S K = none) ∨ ∀ (R : Type) (K : Ex → St A → Option R), LS_L15_2 N (n + 1) S K = bd_L15_2 N S (fun e S' => match e with | .normal => LS_L15_2 N n S' K | e => K e S') := by
  cases hd : decSt sh_L15_2 S with
  | none => exact .inl (fun R K => by unfold LS_L15_2; rw [hd])
  | some ps =>
    have he := decSt_enc hd
    rcases m_L15_2 ps with h | ⟨p0, p1, p2, rfl⟩
    · exact .inl (fun R K => by unfold LS_L15_2; rw [hd]; exact h N (n + 1) R K)
    · have hS : encSt (A := A) sh_L15_2 [.d (.sl 34 p0), .d (.int .i64 p1), .d (.int .i64 p2)] = some { fr := sparse .undef 15 [(5, .d (.sl 34 p0)), (6, .d (.int .i64 p1)), (7, .d (.int .i64 p2))], st := sparse none 0 [] } := by kernel_rfl
      rw [hS] at he
      obtain rfl := Option.some.inj he
      refine .inr (fun R K => ?_)
      rw [b_L15_2]
      unfold LS_L15_2
      rw [hd]
theorem z_L15_2 (N : Nat) (R : Type) (S : St A) (K : Ex → St A → Option R) : LS_L15_2 N 0 S K = none := by
  unfold LS_L15_2
  cases decSt sh_L15_2 S with
  | none => rfl
  | some ps =>
    simp only
    unfold LP_L15_2
    split <;> (try unfold L15_2) <;> rfl
theorem en_15 : Enters Tryz.prog 15 := enters_of (fn := Tryz.f15) (by kernel_rfl) (by kernel_rfl) (by kernel_rfl)
theorem en_F15 : Enters Tryz.prog 15 := en_15
theorem tl_F15 (N : Nat) : TabL Tryz.prog T (C_F15 N) := .nil
theorem nl_F15 (N : Nat) : NatL (C_F15 N) := .nil
theorem ct_F15 (N : Nat) : NatTab (E_F15 N).C := tab_nat (l := C_F15 N) (nl_F15 N)
theorem eo_F15 (N : Nat) : EnvOk (E_F15 N) := ⟨tyOk Tryz.prog, tab_sound (l := C_F15 N) (tl_F15 N), flatOk, keysOk⟩
theorem ll_L15_2 : loopsOf cb_L15_2 = [] := by kernel_rfl
theorem fi_L15_2 (N : Nat) : FineL (E_F15 N) N [] := .nil
theorem cc_L15_2 (N : Nat) : CutsOk (E_F15 N) N cb_L15_2 := cuts_of (fun _ => rfl) cb_L15_2 (by rw [ll_L15_2]; exact fi_L15_2 N)
theorem cg_L15_2 (N : Nat) : (firstReg cb_L15_2).bind (E_F15_ N).cutL = some (LS_L15_2 N N) := by kernel_rfl
theorem ce_L15_2 (N : Nat) : (firstReg cb_L15_2).bind (E_F15 N).cutL = some (LS_L15_2 N N) := cg_L15_2 N
theorem lf_L15_2 (N : Nat) : LoopFine (E_F15 N) N cb_L15_2 := fine_of (LS_L15_2 N) (ce_L15_2 N) (ct_F15 N) (cc_L15_2 N) (z_L15_2 N) (s_L15_2 N)
theorem ll_F15 : loopsOf code_15 = [cb_L15_2] := by kernel_rfl
theorem fi_F15 (N : Nat) : FineL (E_F15 N) N [cb_L15_2] := (.cons (lf_L15_2 N) .nil)
theorem cc_F15 (N : Nat) : CutsOk (E_F15 N) N code_15 := cuts_of (fun _ => rfl) code_15 (by rw [ll_F15]; exact fi_F15 N)
theorem v_F15 (args : List (IV A)) : (∀ (N : Nat) (R : Type) (k : IV A → List (IV A) → Option R), S_F15 N args k = none) ∨ ∃ (a1 : List (Int)), args = [.d (.sl 34 a1)] := by
  by_cases h : ∃ (a1 : List (Int)), args = [.d (.sl 34 a1)]
  · exact .inr h
  · refine .inl (fun N R k => ?_)
    unfold S_F15 SS_F15
    split
    · exact absurd ⟨_, rfl⟩ h
    · rfl
theorem sm_F15 (N : Nat) : Same (S_F15 N) (abody (E_F15 N) Tryz.f15 code_15 0 [] [.asis] N) := by
  intro args
  rcases v_F15 args with h | ⟨a1, rfl⟩
  · exact .inl (h N)
  · exact .inr (fun R k => (t_F15 N a1 R k).symm)
theorem fu_15 : Tryz.prog.funcs[15]? = some Tryz.f15 := by kernel_rfl
theorem bo_15 : Tryz.f15.body = some code_15 := by kernel_rfl
theorem fs_F15 (N : Nat) : FnSound Tryz.prog T 15 (S_F15 N) := fs_of (E_F15 N) rfl rfl (eo_F15 N) (ct_F15 N) mixed fu_15 bo_15 0 [] [.asis] N (cc_F15 N) (sm_F15 N)
theorem na_F15 (N : Nat) : NatSpec (S_F15 N) := na_of (E_F15 N) (ct_F15 N) Tryz.f15 code_15 0 [] [.asis] N (cc_F15 N) (sm_F15 N)
def L18_4 : Nat → Nat → Int → List (G_Contact) → Int → Int → List ((Int) × (Int)) → {R : Type} → (Int → List ((Int) × (Int)) → Option R) → Option R
  | _, 0, _, _, _, _, _, _, _ => none
  | N, n + 1, v2, v3, v4, v5, v6, _, e0 => (bif (decide (v5 < v4)) then (bif (decide (0 ≤ v5)) then (match v3[(v5 : Int).toNat]? with | some x8 => L18_4 N n (if x8.f_Sent > v2 then x8.f_Sent else v2) v3 v4 ((IntKind.i64.wrap (v5 + 1))) ((mset_3_3 x8.f_Sent (IntKind.i64.wrap (((mget_3_3 x8.f_Sent v6).getD 0) + 1)) v6)) e0 | none => none) else none) else e0 v2 v6)
def L18_12 : Nat → Nat → Int → Int → List ((Int) × (Int)) → List (G_Row) → List (Int) → {R : Type} → (List (G_Row) → List (Int) → Option R) → Option R
  | _, 0, _, _, _, _, _, _, _ => none
  | N, n + 1, v11, v12, v13, v14, v15, _, e0 => (bif (decide (v12 ≤ v11)) then (bif (decide (((mget_3_3 v12 v13).getD 0) > 1)) then (bif (decide ((v15.length + [v12].length) * 8 ≤ roomBytes')) then L18_12 N n v11 ((IntKind.i64.wrap (v12 + 1))) v13 v14 (v15 ++ [v12]) e0 else none) else (bif (((mget_3_3 v12 v13).getD 0) == 0) then (bif (decide ((IntKind.i64.wrap ((v14.length : Int) - 1)) ≥ 0)) then (bif (decide (0 ≤ (IntKind.i64.wrap ((v14.length : Int) - 1))) && decide ((IntKind.i64.wrap ((v14.length : Int) - 1)) < (v14.length : Int))) then (match v14[((IntKind.i64.wrap ((v14.length : Int) - 1)) : Int).toNat]? with | some x19 => (bif (x19.f_To == v12) then (bif (decide (0 ≤ (IntKind.i64.wrap ((v14.length : Int) - 1))) && decide ((IntKind.i64.wrap ((v14.length : Int) - 1)) < (v14.length : Int))) then (match v14[((IntKind.i64.wrap ((v14.length : Int) - 1)) : Int).toNat]? with | some x20 => (bif (decide (0 ≤ (IntKind.i64.wrap ((v14.length : Int) - 1))) && decide ((IntKind.i64.wrap ((v14.length : Int) - 1)) < (v14.length : Int))) then (match v14[((IntKind.i64.wrap ((v14.length : Int) - 1)) : Int).toNat]? with | some x21 => L18_12 N n v11 ((IntKind.i64.wrap (v12 + 1))) v13 ((v14.set ((IntKind.i64.wrap ((v14.length : Int) - 1)) : Int).toNat (⟨x21.f_From, (IntKind.i64.wrap (x20.f_To + 1))⟩ : G_Row))) v15 e0 | none => none) else none) | none => none) else none) else (bif (((mget_3_3 v12 v13).getD 0) == 0) then (bif (decide ((v14.length + [(⟨v12, (IntKind.i64.wrap (v12 + 1))⟩ : G_Row)].length) * 16 ≤ roomBytes')) then L18_12 N n v11 ((IntKind.i64.wrap (v12 + 1))) v13 ((v14 ++ [(⟨v12, (IntKind.i64.wrap (v12 + 1))⟩ : G_Row)])) v15 e0 else none) else L18_12 N n v11 ((IntKind.i64.wrap (v12 + 1))) v13 v14 v15 e0)) | none => none) else none) else (bif (((mget_3_3 v12 v13).getD 0) == 0) then (bif (decide ((v14.length + [(⟨v12, (IntKind.i64.wrap (v12 + 1))⟩ : G_Row)].length) * 16 ≤ roomBytes')) then L18_12 N n v11 ((IntKind.i64.wrap (v12 + 1))) v13 ((v14 ++ [(⟨v12, (IntKind.i64.wrap (v12 + 1))⟩ : G_Row)])) v15 e0 else none) else L18_12 N n v11 ((IntKind.i64.wrap (v12 + 1))) v13 v14 v15 e0)) else (bif (((mget_3_3 v12 v13).getD 0) == 0) then (bif (decide ((v14.length + [(⟨v12, (IntKind.i64.wrap (v12 + 1))⟩ : G_Row)].length) * 16 ≤ roomBytes')) then L18_12 N n v11 ((IntKind.i64.wrap (v12 + 1))) v13 ((v14 ++ [(⟨v12, (IntKind.i64.wrap (v12 + 1))⟩ : G_Row)])) v15 e0 else none) else L18_12 N n v11 ((IntKind.i64.wrap (v12 + 1))) v13 v14 v15 e0))) else e0 v14 v15)
abbrev TF18 : Type 1 := List (G_Contact) → {R : Type} → (List (G_Row) → List (Int) → Option R) → Option R
def F18_ (N : Nat) (a1 : List (G_Contact)) {R : Type} (k0 : List (G_Row) → List (Int) → Option R) : Option R :=
  (L18_4 N N 0 a1 (a1.length : Int) 0 [] (fun e9 e10 => (L18_12 N N e9 1 e10 [] [] (fun e22 e23 => k0 e22 e23))))
def F18 (N : Nat) : TF18 := @F18_ N
def p_F18 (args : List (IV A)) : Bool := match args with | [.d (.sl 58 _)] => true | _ => false
def SS_F18 (g : TF18) : Spec A := fun args _ k => match args with | [.d (.sl 58 a1)] => g a1 (fun z0 z1 => k (.tup [.arr 54 z0, .arr 3 z1]) [.undef]) | _ => none
def S_F18 (N : Nat) : Spec A := SS_F18 (F18 N)
def sh_L18_4 : SSt := { fr := sparse .undef 86 [(4, .mp 0), (5, .int .i64), (13, .sl 58), (14, .int .i64), (15, .int .i64)], st := sparse .none 8 [(0, .mp 3 3)] }
def LP_L18_4 (N n : Nat) (ps : List (Pv A)) {R : Type} (K : Ex → St A → Option R) : Option R := match ps with | [.d (.int .i64 p0), .d (.sl 58 p1), .d (.int .i64 p2), .d (.int .i64 p3), .mp 3 3 p4] => L18_4 N n p0 p1 p2 p3 p4 (fun z0 z1 => K (.exit 0) { fr := sparse .undef 86 [(4, .mp 0), (5, .d (.int .i64 z0))], st := sparse none 8 [(0, some (.mp 3 3 z1))] }) | _ => none
def LS_L18_4 (N n : Nat) : Piece A := fun S _ K => match decSt sh_L18_4 S with | some ps => LP_L18_4 N n ps K | none => none
def sh_L18_12 : SSt := { fr := sparse .undef 86 [(4, .mp 0), (5, .int .i64), (8, .own 54 2), (9, .own 3 3), (10, .int .i64)], st := sparse .none 8 [(0, .mp 3 3), (2, .row 54), (3, .row 3)] }
def LP_L18_12 (N n : Nat) (ps : List (Pv A)) {R : Type} (K : Ex → St A → Option R) : Option R := match ps with | [.d (.int .i64 p0), .d (.int .i64 p1), .mp 3 3 p2, .d (.sl 54 p3), .d (.sl 3 p4)] => L18_12 N n p0 p1 p2 p3 p4 (fun z0 z1 => K (.exit 2) { fr := sparse .undef 86 [(8, .own 54 2), (9, .own 3 3)], st := sparse none 8 [(2, some (.row 54 z0)), (3, some (.row 3 z1))] }) | _ => none
def LS_L18_12 (N n : Nat) : Piece A := fun S _ K => match decSt sh_L18_12 S with | some ps => LP_L18_12 N n ps K | none => none
noncomputable def code_18 : Code := (Tryz.f18.body).getD .skip
def C_F18_ : List (Nat × Spec A) := []
def C_F18 (N : Nat) : List (Nat × Spec A) := C_F18_
noncomputable def E_F18_ (N : Nat) : Env A := { P := Tryz.prog, T := T, C := fun f => (C_F18_).lookup f, tg := fun d => ([(7, [1]), (12, [0]), (44, [4]), (45, [5]), (82, [6]), (83, [7])].lookup d).getD [], seqH := fun _ => none, loopH := fun i => [(4, ({ keep := [4, 5, 13, 14, 15], canon := [], stay := [0] } : Hint)), (12, ({ keep := [4, 5, 8, 9, 10], canon := [(8, 54, 2), (9, 3, 3)], stay := [0] } : Hint))].lookup i, exitH := fun i => [(4, ({ keep := [4, 5], canon := [], stay := [0] } : Hint)), (12, ({ keep := [8, 9], canon := [], stay := [2, 3] } : Hint))].lookup i, cutL := fun i => [(4, LS_L18_4 N N), (12, LS_L18_12 N N)].lookup i, mode := fun f i => [].contains (f, i), keyed := keyT, flat := flatT, pin := [] }
noncomputable def E_F18 (N : Nat) : Env A := E_F18_ N
theorem tg_F18 (N : Nat) (a1 : List (G_Contact)) (R : Type) (k : IV A → List (IV A) → Option R) : abody (E_F18_ N) Tryz.f18 code_18 8 [] [.arr 54, .arr 3] N [.d (.sl 58 a1)] k = SS_F18 (@F18_ N) [.d (.sl 58 a1)] k := by kernel_rfl
theorem t_F18 (N : Nat) (a1 : List (G_Contact)) (R : Type) (k : IV A → List (IV A) → Option R) : abody (E_F18 N) Tryz.f18 code_18 8 [] [.arr 54, .arr 3] N [.d (.sl 58 a1)] k = S_F18 N [.d (.sl 58 a1)] k := tg_F18 N a1 R k
noncomputable def cb_L18_4 : Code := sub [1, 1, 1, 0, 1, 0, 0] code_18
noncomputable def bd_L18_4 (N : Nat) : Piece A := around (fun S _ K => aexec (E_F18_ N) N cb_L18_4 S K) ((firstReg cb_L18_4).bind (E_F18_ N).loopH) ((firstReg cb_L18_4).bind (E_F18_ N).exitH)
theorem b_L18_4 (N n : Nat) (p0 : Int) (p1 : List (G_Contact)) (p2 : Int) (p3 : Int) (p4 : List ((Int) × (Int))) (R : Type) (K : Ex → St A → Option R) : bd_L18_4 N { fr := sparse .undef 86 [(4, .mp 0), (5, .d (.int .i64 p0)), (13, .d (.sl 58 p1)), (14, .d (.int .i64 p2)), (15, .d (.int .i64 p3))], st := sparse none 8 [(0, some (.mp 3 3 p4))] } (fun e S' => match e with | .normal => LS_L18_4 N n S' K | e => K e S') = LP_L18_4 N (n + 1) [.d (.int .i64 p0), .d (.sl 58 p1), .d (.int .i64 p2), .d (.int .i64 p3), .mp 3 3 p4] K := by kernel_rfl
theorem m_L18_4 (ps : List (Pv A)) : (∀ (N n : Nat) (R : Type) (K : Ex → St A → Option R), LP_L18_4 N n ps K = none) ∨ ∃ (p0 : Int) (p1 : List (G_Contact)) (p2 : Int) (p3 : Int) (p4 : List ((Int) × (Int))), ps = [.d (.int .i64 p0), .d (.sl 58 p1), .d (.int .i64 p2), .d (.int .i64 p3), .mp 3 3 p4] := by
  by_cases h : ∃ (p0 : Int) (p1 : List (G_Contact)) (p2 : Int) (p3 : Int) (p4 : List ((Int) × (Int))), ps = [.d (.int .i64 p0), .d (.sl 58 p1), .d (.int .i64 p2), .d (.int .i64 p3), .mp 3 3 p4]
  · exact .inr h
  · refine .inl (fun N n R K => ?_)
    unfold LP_L18_4
    split
    · exact absurd ⟨_, _, _, _, _, rfl⟩ h
    · rfl
theorem s_L18_4 (N n : Nat) (S : St A) : (∀ (R : Type) (K : Ex → St A → Option R), LS_L18_4 N (n + 1) S K = none) ∨ ∀ (R : Type) (K : Ex → St A → Option R), LS_L18_4 N (n + 1) S K = bd_L18_4 N S (fun e S' => match e with | .normal => LS_L18_4 N n S' K | e => K e S') := by
  cases hd : decSt sh_L18_4 S with
  | none => exact .inl (fun R K => by unfold LS_L18_4; rw [hd])
  | some ps =>
    have he := decSt_enc hd
    rcases m_L18_4 ps with h | ⟨p0, p1, p2, p3, p4, rfl⟩
    · exact .inl (fun R K => by unfold LS_L18_4; rw [hd]; exact h N (n + 1) R K)
    · have hS : encSt (A := A) sh_L18_4 [.d (.int .i64 p0), .d (.sl 58 p1), .d (.int .i64 p2), .d (.int .i64 p3), .mp 3 3 p4] = some { fr := sparse .undef 86 [(4, .mp 0), (5, .d (.int .i64 p0)), (13, .d (.sl 58 p1)), (14, .d (.int .i64 p2)), (15, .d (.int .i64 p3))], st := sparse none 8 [(0, some (.mp 3 3 p4))] } := by kernel_rfl
      rw [hS] at he
      obtain rfl := Option.some.inj he
      refine .inr (fun R K => ?_)
      rw [b_L18_4]
      unfold LS_L18_4
      rw [hd]
theorem z_L18_4 (N : Nat) (R : Type) (S : St A) (K : Ex → St A → Option R) : LS_L18_4 N 0 S K = none := by
  unfold LS_L18_4
  cases decSt sh_L18_4 S with
  | none => rfl
  | some ps =>
    simp only
    unfold LP_L18_4
    split <;> (try unfold L18_4) <;> rfl
noncomputable def cb_L18_12 : Code := sub [1, 1, 1, 1, 1, 1, 0, 1, 0, 0] code_18
noncomputable def bd_L18_12 (N : Nat) : Piece A := around (fun S _ K => aexec (E_F18_ N) N cb_L18_12 S K) ((firstReg cb_L18_12).bind (E_F18_ N).loopH) ((firstReg cb_L18_12).bind (E_F18_ N).exitH)
theorem b_L18_12 (N n : Nat) (p0 : Int) (p1 : Int) (p2 : List ((Int) × (Int))) (p3 : List (G_Row)) (p4 : List (Int)) (R : Type) (K : Ex → St A → Option R) : bd_L18_12 N { fr := sparse .undef 86 [(4, .mp 0), (5, .d (.int .i64 p0)), (8, .own 54 2), (9, .own 3 3), (10, .d (.int .i64 p1))], st := sparse none 8 [(0, some (.mp 3 3 p2)), (2, some (.row 54 p3)), (3, some (.row 3 p4))] } (fun e S' => match e with | .normal => LS_L18_12 N n S' K | e => K e S') = LP_L18_12 N (n + 1) [.d (.int .i64 p0), .d (.int .i64 p1), .mp 3 3 p2, .d (.sl 54 p3), .d (.sl 3 p4)] K := by kernel_rfl
theorem m_L18_12 (ps : List (Pv A)) : (∀ (N n : Nat) (R : Type) (K : Ex → St A → Option R), LP_L18_12 N n ps K = none) ∨ ∃ (p0 : Int) (p1 : Int) (p2 : List ((Int) × (Int))) (p3 : List (G_Row)) (p4 : List (Int)), ps = [.d (.int .i64 p0), .d (.int .i64 p1), .mp 3 3 p2, .d (.sl 54 p3), .d (.sl 3 p4)] := by
  by_cases h : ∃ (p0 : Int) (p1 : Int) (p2 : List ((Int) × (Int))) (p3 : List (G_Row)) (p4 : List (Int)), ps = [.d (.int .i64 p0), .d (.int .i64 p1), .mp 3 3 p2, .d (.sl 54 p3), .d (.sl 3 p4)]
  · exact .inr h
  · refine .inl (fun N n R K => ?_)
    unfold LP_L18_12
    split
    · exact absurd ⟨_, _, _, _, _, rfl⟩ h
    · rfl
theorem s_L18_12 (N n : Nat) (S : St A) : (∀ (R : Type) (K : Ex → St A → Option R), LS_L18_12 N (n + 1) S K = none) ∨ ∀ (R : Type) (K : Ex → St A → Option R), LS_L18_12 N (n + 1) S K = bd_L18_12 N S (fun e S' => match e with | .normal => LS_L18_12 N n S' K | e => K e S') := by
  cases hd : decSt sh_L18_12 S with
  | none => exact .inl (fun R K => by unfold LS_L18_12; rw [hd])
  | some ps =>
    have he := decSt_enc hd
    rcases m_L18_12 ps with h | ⟨p0, p1, p2, p3, p4, rfl⟩
    · exact .inl (fun R K => by unfold LS_L18_12; rw [hd]; exact h N (n + 1) R K)
    · have hS : encSt (A := A) sh_L18_12 [.d (.int .i64 p0), .d (.int .i64 p1), .mp 3 3 p2, .d (.sl 54 p3), .d (.sl 3 p4)] = some { fr := sparse .undef 86 [(4, .mp 0), (5, .d (.int .i64 p0)), (8, .own 54 2), (9, .own 3 3), (10, .d (.int .i64 p1))], st := sparse none 8 [(0, some (.mp 3 3 p2)), (2, some (.row 54 p3)), (3, some (.row 3 p4))] } := by kernel_rfl
      rw [hS] at he
      obtain rfl := Option.some.inj he
      refine .inr (fun R K => ?_)
      rw [b_L18_12]
      unfold LS_L18_12
      rw [hd]
theorem z_L18_12 (N : Nat) (R : Type) (S : St A) (K : Ex → St A → Option R) : LS_L18_12 N 0 S K = none := by
  unfold LS_L18_12
  cases decSt sh_L18_12 S with
  | none => rfl
  | some ps =>
    simp only
    unfold LP_L18_12
    split <;> (try unfold L18_12) <;> rfl
theorem en_18 : Enters Tryz.prog 18 := enters_of (fn := Tryz.f18) (by kernel_rfl) (by kernel_rfl) (by kernel_rfl)
theorem en_F18 : Enters Tryz.prog 18 := en_18
theorem tl_F18 (N : Nat) : TabL Tryz.prog T (C_F18 N) := .nil
theorem nl_F18 (N : Nat) : NatL (C_F18 N) := .nil
theorem ct_F18 (N : Nat) : NatTab (E_F18 N).C := tab_nat (l := C_F18 N) (nl_F18 N)
theorem eo_F18 (N : Nat) : EnvOk (E_F18 N) := ⟨tyOk Tryz.prog, tab_sound (l := C_F18 N) (tl_F18 N), flatOk, keysOk⟩
theorem ll_L18_4 : loopsOf cb_L18_4 = [] := by kernel_rfl
theorem fi_L18_4 (N : Nat) : FineL (E_F18 N) N [] := .nil
theorem cc_L18_4 (N : Nat) : CutsOk (E_F18 N) N cb_L18_4 := cuts_of (fun _ => rfl) cb_L18_4 (by rw [ll_L18_4]; exact fi_L18_4 N)
theorem cg_L18_4 (N : Nat) : (firstReg cb_L18_4).bind (E_F18_ N).cutL = some (LS_L18_4 N N) := by kernel_rfl
theorem ce_L18_4 (N : Nat) : (firstReg cb_L18_4).bind (E_F18 N).cutL = some (LS_L18_4 N N) := cg_L18_4 N
theorem lf_L18_4 (N : Nat) : LoopFine (E_F18 N) N cb_L18_4 := fine_of (LS_L18_4 N) (ce_L18_4 N) (ct_F18 N) (cc_L18_4 N) (z_L18_4 N) (s_L18_4 N)
theorem ll_L18_12 : loopsOf cb_L18_12 = [] := by kernel_rfl
theorem fi_L18_12 (N : Nat) : FineL (E_F18 N) N [] := .nil
theorem cc_L18_12 (N : Nat) : CutsOk (E_F18 N) N cb_L18_12 := cuts_of (fun _ => rfl) cb_L18_12 (by rw [ll_L18_12]; exact fi_L18_12 N)
theorem cg_L18_12 (N : Nat) : (firstReg cb_L18_12).bind (E_F18_ N).cutL = some (LS_L18_12 N N) := by kernel_rfl
theorem ce_L18_12 (N : Nat) : (firstReg cb_L18_12).bind (E_F18 N).cutL = some (LS_L18_12 N N) := cg_L18_12 N
theorem lf_L18_12 (N : Nat) : LoopFine (E_F18 N) N cb_L18_12 := fine_of (LS_L18_12 N) (ce_L18_12 N) (ct_F18 N) (cc_L18_12 N) (z_L18_12 N) (s_L18_12 N)
theorem ll_F18 : loopsOf code_18 = [cb_L18_4, cb_L18_12] := by kernel_rfl
theorem fi_F18 (N : Nat) : FineL (E_F18 N) N [cb_L18_4, cb_L18_12] := (.cons (lf_L18_4 N) (.cons (lf_L18_12 N) .nil))
theorem cc_F18 (N : Nat) : CutsOk (E_F18 N) N code_18 := cuts_of (fun _ => rfl) code_18 (by rw [ll_F18]; exact fi_F18 N)
theorem v_F18 (args : List (IV A)) : (∀ (N : Nat) (R : Type) (k : IV A → List (IV A) → Option R), S_F18 N args k = none) ∨ ∃ (a1 : List (G_Contact)), args = [.d (.sl 58 a1)] := by
  by_cases h : ∃ (a1 : List (G_Contact)), args = [.d (.sl 58 a1)]
  · exact .inr h
  · refine .inl (fun N R k => ?_)
    unfold S_F18 SS_F18
    split
    · exact absurd ⟨_, rfl⟩ h
    · rfl
theorem sm_F18 (N : Nat) : Same (S_F18 N) (abody (E_F18 N) Tryz.f18 code_18 8 [] [.arr 54, .arr 3] N) := by
  intro args
  rcases v_F18 args with h | ⟨a1, rfl⟩
  · exact .inl (h N)
  · exact .inr (fun R k => (t_F18 N a1 R k).symm)
theorem fu_18 : Tryz.prog.funcs[18]? = some Tryz.f18 := by kernel_rfl
theorem bo_18 : Tryz.f18.body = some code_18 := by kernel_rfl
theorem fs_F18 (N : Nat) : FnSound Tryz.prog T 18 (S_F18 N) := fs_of (E_F18 N) rfl rfl (eo_F18 N) (ct_F18 N) mixed fu_18 bo_18 8 [] [.arr 54, .arr 3] N (cc_F18 N) (sm_F18 N)
theorem na_F18 (N : Nat) : NatSpec (S_F18 N) := na_of (E_F18 N) (ct_F18 N) Tryz.f18 code_18 8 [] [.arr 54, .arr 3] N (cc_F18 N) (sm_F18 N)
abbrev TF50 : Type 1 := List UInt8 → {R : Type} → (List UInt8 → Option R) → Option R
def F50_ (g77 : TF77) (N : Nat) (a1 : List UInt8) {R : Type} (k0 : List UInt8 → Option R) : Option R :=
  (g77 a1 (fun r2 r3 r4 r5 r6 r7 => k0 r2))
def F50 (N : Nat) : TF50 := @F50_ (@F77 N) N
def p_F50 (args : List (IV A)) : Bool := match args with | [.d (.str _)] => true | _ => false
def SS_F50 (g : TF50) : Spec A := fun args _ k => match args with | [.d (.str a1)] => g a1 (fun z0 => k (.d (.str z0)) [.undef]) | _ => none
def S_F50 (N : Nat) : Spec A := SS_F50 (F50 N)
noncomputable def code_50 : Code := (Tryz.f50.body).getD .skip
def C_F50_ (g77 : TF77) : List (Nat × Spec A) := [(77, SS_F77 g77)]
def C_F50 (N : Nat) : List (Nat × Spec A) := C_F50_ (@F77 N)
noncomputable def E_F50_ (g77 : TF77) (N : Nat) : Env A := { P := Tryz.prog, T := T, C := fun f => (C_F50_ g77).lookup f, tg := fun d => ([(3, [0])].lookup d).getD [], seqH := fun _ => none, loopH := fun i => [].lookup i, exitH := fun i => [].lookup i, cutL := fun _ => none, mode := fun f i => [].contains (f, i), keyed := keyT, flat := flatT, pin := [] }
noncomputable def E_F50 (N : Nat) : Env A := E_F50_ (@F77 N) N
theorem tg_F50 (g77 : TF77) (N : Nat) (a1 : List UInt8) (R : Type) (k : IV A → List (IV A) → Option R) : abody (E_F50_ g77 N) Tryz.f50 code_50 1 [] [.asis] N [.d (.str a1)] k = SS_F50 (@F50_ g77 N) [.d (.str a1)] k := by kernel_rfl
theorem t_F50 (N : Nat) (a1 : List UInt8) (R : Type) (k : IV A → List (IV A) → Option R) : abody (E_F50 N) Tryz.f50 code_50 1 [] [.asis] N [.d (.str a1)] k = S_F50 N [.d (.str a1)] k := tg_F50 (@F77 N) N a1 R k
theorem en_50 : Enters Tryz.prog 50 := enters_of (fn := Tryz.f50) (by kernel_rfl) (by kernel_rfl) (by kernel_rfl)
theorem en_F50 : Enters Tryz.prog 50 := en_50
theorem tl_F50 (N : Nat) : TabL Tryz.prog T (C_F50 N) := (.cons (fs_F77 N) en_F77 .nil)
theorem nl_F50 (N : Nat) : NatL (C_F50 N) := (.cons (na_F77 N) .nil)
theorem ct_F50 (N : Nat) : NatTab (E_F50 N).C := tab_nat (l := C_F50 N) (nl_F50 N)
theorem eo_F50 (N : Nat) : EnvOk (E_F50 N) := ⟨tyOk Tryz.prog, tab_sound (l := C_F50 N) (tl_F50 N), flatOk, keysOk⟩
theorem ll_F50 : loopsOf code_50 = [] := by kernel_rfl
theorem fi_F50 (N : Nat) : FineL (E_F50 N) N [] := .nil
theorem cc_F50 (N : Nat) : CutsOk (E_F50 N) N code_50 := cuts_of (fun _ => rfl) code_50 (by rw [ll_F50]; exact fi_F50 N)
theorem v_F50 (args : List (IV A)) : (∀ (N : Nat) (R : Type) (k : IV A → List (IV A) → Option R), S_F50 N args k = none) ∨ ∃ (a1 : List UInt8), args = [.d (.str a1)] := by
  by_cases h : ∃ (a1 : List UInt8), args = [.d (.str a1)]
  · exact .inr h
  · refine .inl (fun N R k => ?_)
    unfold S_F50 SS_F50
    split
    · exact absurd ⟨_, rfl⟩ h
    · rfl
theorem sm_F50 (N : Nat) : Same (S_F50 N) (abody (E_F50 N) Tryz.f50 code_50 1 [] [.asis] N) := by
  intro args
  rcases v_F50 args with h | ⟨a1, rfl⟩
  · exact .inl (h N)
  · exact .inr (fun R k => (t_F50 N a1 R k).symm)
theorem fu_50 : Tryz.prog.funcs[50]? = some Tryz.f50 := by kernel_rfl
theorem bo_50 : Tryz.f50.body = some code_50 := by kernel_rfl
theorem fs_F50 (N : Nat) : FnSound Tryz.prog T 50 (S_F50 N) := fs_of (E_F50 N) rfl rfl (eo_F50 N) (ct_F50 N) mixed fu_50 bo_50 1 [] [.asis] N (cc_F50 N) (sm_F50 N)
theorem na_F50 (N : Nat) : NatSpec (S_F50 N) := na_of (E_F50 N) (ct_F50 N) Tryz.f50 code_50 1 [] [.asis] N (cc_F50 N) (sm_F50 N)
abbrev TF49 : Type 1 := Int → Int → List UInt8 → List UInt8 → Int → Int → List UInt8 → List UInt8 → Int → Int → List UInt8 → List UInt8 → Int → Int → List UInt8 → List UInt8 → {R : Type} → (Bool → Int → Int → List UInt8 → List UInt8 → Int → Int → List UInt8 → List UInt8 → Option R) → Option R
def F49_ (g50 : TF50) (N : Nat) (a1 : Int) (a2 : Int) (a3 : List UInt8) (a4 : List UInt8) (a5 : Int) (a6 : Int) (a7 : List UInt8) (a8 : List UInt8) (a9 : Int) (a10 : Int) (a11 : List UInt8) (a12 : List UInt8) (a13 : Int) (a14 : Int) (a15 : List UInt8) (a16 : List UInt8) {R : Type} (k0 : Bool → Int → Int → List UInt8 → List UInt8 → Int → Int → List UInt8 → List UInt8 → Option R) : Option R :=
  (bif (a3 == a11) then (bif (a2 == a10) then (g50 a4 (fun r17 => (g50 a12 (fun r18 => k0 (r17 == r18) a9 a10 a11 a12 a13 a14 a15 a16)))) else k0 false a9 a10 a11 a12 a13 a14 a15 a16) else k0 false a9 a10 a11 a12 a13 a14 a15 a16)
def F49 (N : Nat) : TF49 := @F49_ (@F50 N) N
def p_F49 (args : List (IV A)) : Bool := match args with | [.agg [.d (.int .i64 _), .d (.int .i64 _), .d (.str _), .d (.str _), .d (.int .i64 _), .d (.int .i64 _), .d (.str _), .d (.str _)], .box [.d (.int .i64 _), .d (.int .i64 _), .d (.str _), .d (.str _), .d (.int .i64 _), .d (.int .i64 _), .d (.str _), .d (.str _)]] => true | _ => false
def SS_F49 (g : TF49) : Spec A := fun args _ k => match args with | [.agg [.d (.int .i64 a1), .d (.int .i64 a2), .d (.str a3), .d (.str a4), .d (.int .i64 a5), .d (.int .i64 a6), .d (.str a7), .d (.str a8)], .box [.d (.int .i64 a9), .d (.int .i64 a10), .d (.str a11), .d (.str a12), .d (.int .i64 a13), .d (.int .i64 a14), .d (.str a15), .d (.str a16)]] => g a1 a2 a3 a4 a5 a6 a7 a8 a9 a10 a11 a12 a13 a14 a15 a16 (fun z0 z1 z2 z3 z4 z5 z6 z7 z8 => k (.d (.bool z0)) [.undef, .box [.d (.int .i64 z1), .d (.int .i64 z2), .d (.str z3), .d (.str z4), .d (.int .i64 z5), .d (.int .i64 z6), .d (.str z7), .d (.str z8)]]) | _ => none
def S_F49 (N : Nat) : Spec A := SS_F49 (F49 N)
noncomputable def code_49 : Code := (Tryz.f49.body).getD .skip
def C_F49_ (g50 : TF50) : List (Nat × Spec A) := [(50, SS_F50 g50)]
def C_F49 (N : Nat) : List (Nat × Spec A) := C_F49_ (@F50 N)
noncomputable def E_F49_ (g50 : TF50) (N : Nat) : Env A := { P := Tryz.prog, T := T, C := fun f => (C_F49_ g50).lookup f, tg := fun d => ([(2, [1])].lookup d).getD [], seqH := fun _ => none, loopH := fun i => [].lookup i, exitH := fun i => [].lookup i, cutL := fun _ => none, mode := fun f i => [].contains (f, i), keyed := keyT, flat := flatT, pin := [1] }
noncomputable def E_F49 (N : Nat) : Env A := E_F49_ (@F50 N) N
theorem tg_F49 (g50 : TF50) (N : Nat) (a1 : Int) (a2 : Int) (a3 : List UInt8) (a4 : List UInt8) (a5 : Int) (a6 : Int) (a7 : List UInt8) (a8 : List UInt8) (a9 : Int) (a10 : Int) (a11 : List UInt8) (a12 : List UInt8) (a13 : Int) (a14 : Int) (a15 : List UInt8) (a16 : List UInt8) (R : Type) (k : IV A → List (IV A) → Option R) : abody (E_F49_ g50 N) Tryz.f49 code_49 2 [0] [.asis] N [.agg [.d (.int .i64 a1), .d (.int .i64 a2), .d (.str a3), .d (.str a4), .d (.int .i64 a5), .d (.int .i64 a6), .d (.str a7), .d (.str a8)], .box [.d (.int .i64 a9), .d (.int .i64 a10), .d (.str a11), .d (.str a12), .d (.int .i64 a13), .d (.int .i64 a14), .d (.str a15), .d (.str a16)]] k = SS_F49 (@F49_ g50 N) [.agg [.d (.int .i64 a1), .d (.int .i64 a2), .d (.str a3), .d (.str a4), .d (.int .i64 a5), .d (.int .i64 a6), .d (.str a7), .d (.str a8)], .box [.d (.int .i64 a9), .d (.int .i64 a10), .d (.str a11), .d (.str a12), .d (.int .i64 a13), .d (.int .i64 a14), .d (.str a15), .d (.str a16)]] k := by kernel_rfl
theorem t_F49 (N : Nat) (a1 : Int) (a2 : Int) (a3 : List UInt8) (a4 : List UInt8) (a5 : Int) (a6 : Int) (a7 : List UInt8) (a8 : List UInt8) (a9 : Int) (a10 : Int) (a11 : List UInt8) (a12 : List UInt8) (a13 : Int) (a14 : Int) (a15 : List UInt8) (a16 : List UInt8) (R : Type) (k : IV A → List (IV A) → Option R) : abody (E_F49 N) Tryz.f49 code_49 2 [0] [.asis] N [.agg [.d (.int .i64 a1), .d (.int .i64 a2), .d (.str a3), .d (.str a4), .d (.int .i64 a5), .d (.int .i64 a6), .d (.str a7), .d (.str a8)], .box [.d (.int .i64 a9), .d (.int .i64 a10), .d (.str a11), .d (.str a12), .d (.int .i64 a13), .d (.int .i64 a14), .d (.str a15), .d (.str a16)]] k = S_F49 N [.agg [.d (.int .i64 a1), .d (.int .i64 a2), .d (.str a3), .d (.str a4), .d (.int .i64 a5), .d (.int .i64 a6), .d (.str a7), .d (.str a8)], .box [.d (.int .i64 a9), .d (.int .i64 a10), .d (.str a11), .d (.str a12), .d (.int .i64 a13), .d (.int .i64 a14), .d (.str a15), .d (.str a16)]] k := tg_F49 (@F50 N) N a1 a2 a3 a4 a5 a6 a7 a8 a9 a10 a11 a12 a13 a14 a15 a16 R k
theorem en_49 : Enters Tryz.prog 49 := enters_of (fn := Tryz.f49) (by kernel_rfl) (by kernel_rfl) (by kernel_rfl)
theorem en_F49 : Enters Tryz.prog 49 := en_49
theorem tl_F49 (N : Nat) : TabL Tryz.prog T (C_F49 N) := (.cons (fs_F50 N) en_F50 .nil)
theorem nl_F49 (N : Nat) : NatL (C_F49 N) := (.cons (na_F50 N) .nil)
theorem ct_F49 (N : Nat) : NatTab (E_F49 N).C := tab_nat (l := C_F49 N) (nl_F49 N)
theorem eo_F49 (N : Nat) : EnvOk (E_F49 N) := ⟨tyOk Tryz.prog, tab_sound (l := C_F49 N) (tl_F49 N), flatOk, keysOk⟩
theorem ll_F49 : loopsOf code_49 = [] := by kernel_rfl
theorem fi_F49 (N : Nat) : FineL (E_F49 N) N [] := .nil
theorem cc_F49 (N : Nat) : CutsOk (E_F49 N) N code_49 := cuts_of (fun _ => rfl) code_49 (by rw [ll_F49]; exact fi_F49 N)
theorem v_F49 (args : List (IV A)) : (∀ (N : Nat) (R : Type) (k : IV A → List (IV A) → Option R), S_F49 N args k = none) ∨ ∃ (a1 : Int) (a2 : Int) (a3 : List UInt8) (a4 : List UInt8) (a5 : Int) (a6 : Int) (a7 : List UInt8) (a8 : List UInt8) (a9 : Int) (a10 : Int) (a11 : List UInt8) (a12 : List UInt8) (a13 : Int) (a14 : Int) (a15 : List UInt8) (a16 : List UInt8), args = [.agg [.d (.int .i64 a1), .d (.int .i64 a2), .d (.str a3), .d (.str a4), .d (.int .i64 a5), .d (.int .i64 a6), .d (.str a7), .d (.str a8)], .box [.d (.int .i64 a9), .d (.int .i64 a10), .d (.str a11), .d (.str a12), .d (.int .i64 a13), .d (.int .i64 a14), .d (.str a15), .d (.str a16)]] := by
  by_cases h : ∃ (a1 : Int) (a2 : Int) (a3 : List UInt8) (a4 : List UInt8) (a5 : Int) (a6 : Int) (a7 : List UInt8) (a8 : List UInt8) (a9 : Int) (a10 : Int) (a11 : List UInt8) (a12 : List UInt8) (a13 : Int) (a14 : Int) (a15 : List UInt8) (a16 : List UInt8), args = [.agg [.d (.int .i64 a1), .d (.int .i64 a2), .d (.str a3), .d (.str a4), .d (.int .i64 a5), .d (.int .i64 a6), .d (.str a7), .d (.str a8)], .box [.d (.int .i64 a9), .d (.int .i64 a10), .d (.str a11), .d (.str a12), .d (.int .i64 a13), .d (.int .i64 a14), .d (.str a15), .d (.str a16)]]
  · exact .inr h
  · refine .inl (fun N R k => ?_)
    unfold S_F49 SS_F49
    split
    · exact absurd ⟨_, _, _, _, _, _, _, _, _, _, _, _, _, _, _, _, rfl⟩ h
    · rfl
theorem sm_F49 (N : Nat) : Same (S_F49 N) (abody (E_F49 N) Tryz.f49 code_49 2 [0] [.asis] N) := by
  intro args
  rcases v_F49 args with h | ⟨a1, a2, a3, a4, a5, a6, a7, a8, a9, a10, a11, a12, a13, a14, a15, a16, rfl⟩
  · exact .inl (h N)
  · exact .inr (fun R k => (t_F49 N a1 a2 a3 a4 a5 a6 a7 a8 a9 a10 a11 a12 a13 a14 a15 a16 R k).symm)
theorem fu_49 : Tryz.prog.funcs[49]? = some Tryz.f49 := by kernel_rfl
theorem bo_49 : Tryz.f49.body = some code_49 := by kernel_rfl
theorem fs_F49 (N : Nat) : FnSound Tryz.prog T 49 (S_F49 N) := fs_of (E_F49 N) rfl rfl (eo_F49 N) (ct_F49 N) mixed fu_49 bo_49 2 [0] [.asis] N (cc_F49 N) (sm_F49 N)
theorem na_F49 (N : Nat) : NatSpec (S_F49 N) := na_of (E_F49 N) (ct_F49 N) Tryz.f49 code_49 2 [0] [.asis] N (cc_F49 N) (sm_F49 N)
def L76_2 (g49 : TF49) : Nat → Nat → List (G_Contact) → Int → Int → Int → Int → List UInt8 → List UInt8 → Int → Int → List UInt8 → List UInt8 → {R : Type} → (Int → Int → Int → List UInt8 → List UInt8 → Int → Int → List UInt8 → List UInt8 → Option R) → (Int → Int → List UInt8 → List UInt8 → Int → Int → List UInt8 → List UInt8 → Option R) → Option R
  | _, 0, _, _, _, _, _, _, _, _, _, _, _, _, _, _ => none
  | N, n + 1, v10, v11, v12, v13, v14, v15, v16, v17, v18, v19, v20, _, e0, e1 => (bif (decide (v12 < v11)) then (bif (decide (0 ≤ v12)) then (match v10[(v12 : Int).toNat]? with | some x31 => (g49 x31.f_At x31.f_Mode x31.f_Band x31.f_Call x31.f_Sent x31.f_Heard x31.f_Gave x31.f_Got v13 v14 v15 v16 v17 v18 v19 v20 (fun r32 r33 r34 r35 r36 r37 r38 r39 r40 => (bif r32 then e0 v12 r33 r34 r35 r36 r37 r38 r39 r40 else L76_2 g49 N n v10 v11 ((IntKind.i64.wrap (v12 + 1))) r33 r34 r35 r36 r37 r38 r39 r40 e0 e1))) | none => none) else none) else e1 v13 v14 v15 v16 v17 v18 v19 v20)
abbrev TF76 : Type 1 := List (G_Contact) → Int → Int → List UInt8 → List UInt8 → Int → Int → List UInt8 → List UInt8 → {R : Type} → (Int → Int → Int → List UInt8 → List UInt8 → Int → Int → List UInt8 → List UInt8 → Option R) → Option R
def F76_ (g49 : TF49) (N : Nat) (a1 : List (G_Contact)) (a2 : Int) (a3 : Int) (a4 : List UInt8) (a5 : List UInt8) (a6 : Int) (a7 : Int) (a8 : List UInt8) (a9 : List UInt8) {R : Type} (k0 : Int → Int → Int → List UInt8 → List UInt8 → Int → Int → List UInt8 → List UInt8 → Option R) : Option R :=
  (L76_2 g49 N N a1 (a1.length : Int) 0 a2 a3 a4 a5 a6 a7 a8 a9 (fun e41 e42 e43 e44 e45 e46 e47 e48 e49 => k0 e41 e42 e43 e44 e45 e46 e47 e48 e49) (fun e50 e51 e52 e53 e54 e55 e56 e57 => k0 (-1) e50 e51 e52 e53 e54 e55 e56 e57))
def F76 (N : Nat) : TF76 := @F76_ (@F49 N) N
def p_F76 (args : List (IV A)) : Bool := match args with | [.d (.sl 58 _), .fn 49 [.box [.d (.int .i64 _), .d (.int .i64 _), .d (.str _), .d (.str _), .d (.int .i64 _), .d (.int .i64 _), .d (.str _), .d (.str _)]]] => true | _ => false
def SS_F76 (g : TF76) : Spec A := fun args _ k => match args with | [.d (.sl 58 a1), .fn 49 [.box [.d (.int .i64 a2), .d (.int .i64 a3), .d (.str a4), .d (.str a5), .d (.int .i64 a6), .d (.int .i64 a7), .d (.str a8), .d (.str a9)]]] => g a1 a2 a3 a4 a5 a6 a7 a8 a9 (fun z0 z1 z2 z3 z4 z5 z6 z7 z8 => k (.d (.int .i64 z0)) [.undef, .fn 49 [.box [.d (.int .i64 z1), .d (.int .i64 z2), .d (.str z3), .d (.str z4), .d (.int .i64 z5), .d (.int .i64 z6), .d (.str z7), .d (.str z8)]]]) | _ => none
def S_F76 (N : Nat) : Spec A := SS_F76 (F76 N)
def sh_L76_2 : SSt := { fr := sparse .undef 19 [(0, .sl 58), (1, .fn 49 [.ptr 0 0]), (7, .int .i64), (8, .int .i64)], st := sparse .none 1 [(0, .box [.int .i64, .int .i64, .str, .str, .int .i64, .int .i64, .str, .str])] }
def LP_L76_2 (g49 : TF49) (N n : Nat) (ps : List (Pv A)) {R : Type} (K : Ex → St A → Option R) : Option R := match ps with | [.d (.sl 58 p0), .d (.int .i64 p1), .d (.int .i64 p2), .d (.int .i64 p3), .d (.int .i64 p4), .d (.str p5), .d (.str p6), .d (.int .i64 p7), .d (.int .i64 p8), .d (.str p9), .d (.str p10)] => L76_2 g49 N n p0 p1 p2 p3 p4 p5 p6 p7 p8 p9 p10 (fun z0 z1 z2 z3 z4 z5 z6 z7 z8 => K .ret { fr := sparse .undef 19 [(1, .fn 49 [.ptr 0 0]), (4, .d (.int .i64 z0))], st := sparse none 1 [(0, some (.box [.d (.int .i64 z1), .d (.int .i64 z2), .d (.str z3), .d (.str z4), .d (.int .i64 z5), .d (.int .i64 z6), .d (.str z7), .d (.str z8)]))] }) (fun z0 z1 z2 z3 z4 z5 z6 z7 => K (.exit 0) { fr := sparse .undef 19 [(1, .fn 49 [.ptr 0 0])], st := sparse none 1 [(0, some (.box [.d (.int .i64 z0), .d (.int .i64 z1), .d (.str z2), .d (.str z3), .d (.int .i64 z4), .d (.int .i64 z5), .d (.str z6), .d (.str z7)]))] }) | _ => none
def LS_L76_2 (g49 : TF49) (N n : Nat) : Piece A := fun S _ K => match decSt sh_L76_2 S with | some ps => LP_L76_2 g49 N n ps K | none => none
noncomputable def code_76 : Code := (Tryz.f76.body).getD .skip
def C_F76_ (g49 : TF49) : List (Nat × Spec A) := [(49, SS_F49 g49)]
def C_F76 (N : Nat) : List (Nat × Spec A) := C_F76_ (@F49 N)
noncomputable def E_F76_ (g49 : TF49) (N : Nat) : Env A := { P := Tryz.prog, T := T, C := fun f => (C_F76_ g49).lookup f, tg := fun d => ([].lookup d).getD [], seqH := fun _ => none, loopH := fun i => [(2, ({ keep := [0, 1, 7, 8], canon := [], stay := [0] } : Hint))].lookup i, exitH := fun i => [(2, ({ keep := [1, 4], canon := [], stay := [0] } : Hint))].lookup i, cutL := fun i => [(2, LS_L76_2 g49 N N)].lookup i, mode := fun f i => [].contains (f, i), keyed := keyT, flat := flatT, pin := [1] }
noncomputable def E_F76 (N : Nat) : Env A := E_F76_ (@F49 N) N
theorem tg_F76 (g49 : TF49) (N : Nat) (a1 : List (G_Contact)) (a2 : Int) (a3 : Int) (a4 : List UInt8) (a5 : List UInt8) (a6 : Int) (a7 : Int) (a8 : List UInt8) (a9 : List UInt8) (R : Type) (k : IV A → List (IV A) → Option R) : abody (E_F76_ g49 N) Tryz.f76 code_76 1 [0] [.asis] N [.d (.sl 58 a1), .fn 49 [.box [.d (.int .i64 a2), .d (.int .i64 a3), .d (.str a4), .d (.str a5), .d (.int .i64 a6), .d (.int .i64 a7), .d (.str a8), .d (.str a9)]]] k = SS_F76 (@F76_ g49 N) [.d (.sl 58 a1), .fn 49 [.box [.d (.int .i64 a2), .d (.int .i64 a3), .d (.str a4), .d (.str a5), .d (.int .i64 a6), .d (.int .i64 a7), .d (.str a8), .d (.str a9)]]] k := by kernel_rfl
theorem t_F76 (N : Nat) (a1 : List (G_Contact)) (a2 : Int) (a3 : Int) (a4 : List UInt8) (a5 : List UInt8) (a6 : Int) (a7 : Int) (a8 : List UInt8) (a9 : List UInt8) (R : Type) (k : IV A → List (IV A) → Option R) : abody (E_F76 N) Tryz.f76 code_76 1 [0] [.asis] N [.d (.sl 58 a1), .fn 49 [.box [.d (.int .i64 a2), .d (.int .i64 a3), .d (.str a4), .d (.str a5), .d (.int .i64 a6), .d (.int .i64 a7), .d (.str a8), .d (.str a9)]]] k = S_F76 N [.d (.sl 58 a1), .fn 49 [.box [.d (.int .i64 a2), .d (.int .i64 a3), .d (.str a4), .d (.str a5), .d (.int .i64 a6), .d (.int .i64 a7), .d (.str a8), .d (.str a9)]]] k := tg_F76 (@F49 N) N a1 a2 a3 a4 a5 a6 a7 a8 a9 R k
noncomputable def cb_L76_2 : Code := sub [1, 0, 1, 0, 0] code_76
noncomputable def bd_L76_2 (g49 : TF49) (N : Nat) : Piece A := around (fun S _ K => aexec (E_F76_ g49 N) N cb_L76_2 S K) ((firstReg cb_L76_2).bind (E_F76_ g49 N).loopH) ((firstReg cb_L76_2).bind (E_F76_ g49 N).exitH)
theorem b_L76_2 (g49 : TF49) (N n : Nat) (p0 : List (G_Contact)) (p1 : Int) (p2 : Int) (p3 : Int) (p4 : Int) (p5 : List UInt8) (p6 : List UInt8) (p7 : Int) (p8 : Int) (p9 : List UInt8) (p10 : List UInt8) (R : Type) (K : Ex → St A → Option R) : bd_L76_2 g49 N { fr := sparse .undef 19 [(0, .d (.sl 58 p0)), (1, .fn 49 [.ptr 0 0]), (7, .d (.int .i64 p1)), (8, .d (.int .i64 p2))], st := sparse none 1 [(0, some (.box [.d (.int .i64 p3), .d (.int .i64 p4), .d (.str p5), .d (.str p6), .d (.int .i64 p7), .d (.int .i64 p8), .d (.str p9), .d (.str p10)]))] } (fun e S' => match e with | .normal => LS_L76_2 g49 N n S' K | e => K e S') = LP_L76_2 g49 N (n + 1) [.d (.sl 58 p0), .d (.int .i64 p1), .d (.int .i64 p2), .d (.int .i64 p3), .d (.int .i64 p4), .d (.str p5), .d (.str p6), .d (.int .i64 p7), .d (.int .i64 p8), .d (.str p9), .d (.str p10)] K := by kernel_rfl
theorem m_L76_2 (g49 : TF49) (ps : List (Pv A)) : (∀ (N n : Nat) (R : Type) (K : Ex → St A → Option R), LP_L76_2 g49 N n ps K = none) ∨ ∃ (p0 : List (G_Contact)) (p1 : Int) (p2 : Int) (p3 : Int) (p4 : Int) (p5 : List UInt8) (p6 : List UInt8) (p7 : Int) (p8 : Int) (p9 : List UInt8) (p10 : List UInt8), ps = [.d (.sl 58 p0), .d (.int .i64 p1), .d (.int .i64 p2), .d (.int .i64 p3), .d (.int .i64 p4), .d (.str p5), .d (.str p6), .d (.int .i64 p7), .d (.int .i64 p8), .d (.str p9), .d (.str p10)] := by
  by_cases h : ∃ (p0 : List (G_Contact)) (p1 : Int) (p2 : Int) (p3 : Int) (p4 : Int) (p5 : List UInt8) (p6 : List UInt8) (p7 : Int) (p8 : Int) (p9 : List UInt8) (p10 : List UInt8), ps = [.d (.sl 58 p0), .d (.int .i64 p1), .d (.int .i64 p2), .d (.int .i64 p3), .d (.int .i64 p4), .d (.str p5), .d (.str p6), .d (.int .i64 p7), .d (.int .i64 p8), .d (.str p9), .d (.str p10)]
  · exact .inr h
  · refine .inl (fun N n R K => ?_)
    unfold LP_L76_2
    split
    · exact absurd ⟨_, _, _, _, _, _, _, _, _, _, _, rfl⟩ h
    · rfl
theorem s_L76_2 (g49 : TF49) (N n : Nat) (S : St A) : (∀ (R : Type) (K : Ex → St A → Option R), LS_L76_2 g49 N (n + 1) S K = none) ∨ ∀ (R : Type) (K : Ex → St A → Option R), LS_L76_2 g49 N (n + 1) S K = bd_L76_2 g49 N S (fun e S' => match e with | .normal => LS_L76_2 g49 N n S' K | e => K e S') := by
  cases hd : decSt sh_L76_2 S with
  | none => exact .inl (fun R K => by unfold LS_L76_2; rw [hd])
  | some ps =>
    have he := decSt_enc hd
    rcases m_L76_2 g49 ps with h | ⟨p0, p1, p2, p3, p4, p5, p6, p7, p8, p9, p10, rfl⟩
    · exact .inl (fun R K => by unfold LS_L76_2; rw [hd]; exact h N (n + 1) R K)
    · have hS : encSt (A := A) sh_L76_2 [.d (.sl 58 p0), .d (.int .i64 p1), .d (.int .i64 p2), .d (.int .i64 p3), .d (.int .i64 p4), .d (.str p5), .d (.str p6), .d (.int .i64 p7), .d (.int .i64 p8), .d (.str p9), .d (.str p10)] = some { fr := sparse .undef 19 [(0, .d (.sl 58 p0)), (1, .fn 49 [.ptr 0 0]), (7, .d (.int .i64 p1)), (8, .d (.int .i64 p2))], st := sparse none 1 [(0, some (.box [.d (.int .i64 p3), .d (.int .i64 p4), .d (.str p5), .d (.str p6), .d (.int .i64 p7), .d (.int .i64 p8), .d (.str p9), .d (.str p10)]))] } := by kernel_rfl
      rw [hS] at he
      obtain rfl := Option.some.inj he
      refine .inr (fun R K => ?_)
      rw [b_L76_2]
      unfold LS_L76_2
      rw [hd]
theorem z_L76_2 (g49 : TF49) (N : Nat) (R : Type) (S : St A) (K : Ex → St A → Option R) : LS_L76_2 g49 N 0 S K = none := by
  unfold LS_L76_2
  cases decSt sh_L76_2 S with
  | none => rfl
  | some ps =>
    simp only
    unfold LP_L76_2
    split <;> (try unfold L76_2) <;> rfl
theorem en_76 : Enters Tryz.prog 76 := enters_of (fn := Tryz.f76) (by kernel_rfl) (by kernel_rfl) (by kernel_rfl)
theorem en_F76 : Enters Tryz.prog 76 := en_76
theorem tl_F76 (N : Nat) : TabL Tryz.prog T (C_F76 N) := (.cons (fs_F49 N) en_F49 .nil)
theorem nl_F76 (N : Nat) : NatL (C_F76 N) := (.cons (na_F49 N) .nil)
theorem ct_F76 (N : Nat) : NatTab (E_F76 N).C := tab_nat (l := C_F76 N) (nl_F76 N)
theorem eo_F76 (N : Nat) : EnvOk (E_F76 N) := ⟨tyOk Tryz.prog, tab_sound (l := C_F76 N) (tl_F76 N), flatOk, keysOk⟩
theorem ll_L76_2 : loopsOf cb_L76_2 = [] := by kernel_rfl
theorem fi_L76_2 (N : Nat) : FineL (E_F76 N) N [] := .nil
theorem cc_L76_2 (N : Nat) : CutsOk (E_F76 N) N cb_L76_2 := cuts_of (fun _ => rfl) cb_L76_2 (by rw [ll_L76_2]; exact fi_L76_2 N)
theorem cg_L76_2 (g49 : TF49) (N : Nat) : (firstReg cb_L76_2).bind (E_F76_ g49 N).cutL = some (LS_L76_2 g49 N N) := by kernel_rfl
theorem ce_L76_2 (N : Nat) : (firstReg cb_L76_2).bind (E_F76 N).cutL = some (LS_L76_2 (@F49 N) N N) := cg_L76_2 (@F49 N) N
theorem lf_L76_2 (N : Nat) : LoopFine (E_F76 N) N cb_L76_2 := fine_of (LS_L76_2 (@F49 N) N) (ce_L76_2 N) (ct_F76 N) (cc_L76_2 N) (z_L76_2 (@F49 N) N) (s_L76_2 (@F49 N) N)
theorem ll_F76 : loopsOf code_76 = [cb_L76_2] := by kernel_rfl
theorem fi_F76 (N : Nat) : FineL (E_F76 N) N [cb_L76_2] := (.cons (lf_L76_2 N) .nil)
theorem cc_F76 (N : Nat) : CutsOk (E_F76 N) N code_76 := cuts_of (fun _ => rfl) code_76 (by rw [ll_F76]; exact fi_F76 N)
theorem v_F76 (args : List (IV A)) : (∀ (N : Nat) (R : Type) (k : IV A → List (IV A) → Option R), S_F76 N args k = none) ∨ ∃ (a1 : List (G_Contact)) (a2 : Int) (a3 : Int) (a4 : List UInt8) (a5 : List UInt8) (a6 : Int) (a7 : Int) (a8 : List UInt8) (a9 : List UInt8), args = [.d (.sl 58 a1), .fn 49 [.box [.d (.int .i64 a2), .d (.int .i64 a3), .d (.str a4), .d (.str a5), .d (.int .i64 a6), .d (.int .i64 a7), .d (.str a8), .d (.str a9)]]] := by
  by_cases h : ∃ (a1 : List (G_Contact)) (a2 : Int) (a3 : Int) (a4 : List UInt8) (a5 : List UInt8) (a6 : Int) (a7 : Int) (a8 : List UInt8) (a9 : List UInt8), args = [.d (.sl 58 a1), .fn 49 [.box [.d (.int .i64 a2), .d (.int .i64 a3), .d (.str a4), .d (.str a5), .d (.int .i64 a6), .d (.int .i64 a7), .d (.str a8), .d (.str a9)]]]
  · exact .inr h
  · refine .inl (fun N R k => ?_)
    unfold S_F76 SS_F76
    split
    · exact absurd ⟨_, _, _, _, _, _, _, _, _, rfl⟩ h
    · rfl
theorem sm_F76 (N : Nat) : Same (S_F76 N) (abody (E_F76 N) Tryz.f76 code_76 1 [0] [.asis] N) := by
  intro args
  rcases v_F76 args with h | ⟨a1, a2, a3, a4, a5, a6, a7, a8, a9, rfl⟩
  · exact .inl (h N)
  · exact .inr (fun R k => (t_F76 N a1 a2 a3 a4 a5 a6 a7 a8 a9 R k).symm)
theorem fu_76 : Tryz.prog.funcs[76]? = some Tryz.f76 := by kernel_rfl
theorem bo_76 : Tryz.f76.body = some code_76 := by kernel_rfl
theorem fs_F76 (N : Nat) : FnSound Tryz.prog T 76 (S_F76 N) := fs_of (E_F76 N) rfl rfl (eo_F76 N) (ct_F76 N) mixed fu_76 bo_76 1 [0] [.asis] N (cc_F76 N) (sm_F76 N)
theorem na_F76 (N : Nat) : NatSpec (S_F76 N) := na_of (E_F76 N) (ct_F76 N) Tryz.f76 code_76 1 [0] [.asis] N (cc_F76 N) (sm_F76 N)
abbrev TF48 : Type 1 := List (G_Contact) → Int → Int → List UInt8 → List UInt8 → Int → Int → List UInt8 → List UInt8 → {R : Type} → (Bool → Int → Int → List UInt8 → List UInt8 → Int → Int → List UInt8 → List UInt8 → Option R) → Option R
def F48_ (g76 : TF76) (N : Nat) (a1 : List (G_Contact)) (a2 : Int) (a3 : Int) (a4 : List UInt8) (a5 : List UInt8) (a6 : Int) (a7 : Int) (a8 : List UInt8) (a9 : List UInt8) {R : Type} (k0 : Bool → Int → Int → List UInt8 → List UInt8 → Int → Int → List UInt8 → List UInt8 → Option R) : Option R :=
  (g76 a1 a2 a3 a4 a5 a6 a7 a8 a9 (fun r10 r11 r12 r13 r14 r15 r16 r17 r18 => k0 ((decide (r10 ≥ 0))) r11 r12 r13 r14 r15 r16 r17 r18))
def F48 (N : Nat) : TF48 := @F48_ (@F76 N) N
def p_F48 (args : List (IV A)) : Bool := match args with | [.d (.sl 58 _), .fn 49 [.box [.d (.int .i64 _), .d (.int .i64 _), .d (.str _), .d (.str _), .d (.int .i64 _), .d (.int .i64 _), .d (.str _), .d (.str _)]]] => true | _ => false
def SS_F48 (g : TF48) : Spec A := fun args _ k => match args with | [.d (.sl 58 a1), .fn 49 [.box [.d (.int .i64 a2), .d (.int .i64 a3), .d (.str a4), .d (.str a5), .d (.int .i64 a6), .d (.int .i64 a7), .d (.str a8), .d (.str a9)]]] => g a1 a2 a3 a4 a5 a6 a7 a8 a9 (fun z0 z1 z2 z3 z4 z5 z6 z7 z8 => k (.d (.bool z0)) [.undef, .fn 49 [.box [.d (.int .i64 z1), .d (.int .i64 z2), .d (.str z3), .d (.str z4), .d (.int .i64 z5), .d (.int .i64 z6), .d (.str z7), .d (.str z8)]]]) | _ => none
def S_F48 (N : Nat) : Spec A := SS_F48 (F48 N)
noncomputable def code_48 : Code := (Tryz.f48.body).getD .skip
def C_F48_ (g76 : TF76) : List (Nat × Spec A) := [(76, SS_F76 g76)]
def C_F48 (N : Nat) : List (Nat × Spec A) := C_F48_ (@F76 N)
noncomputable def E_F48_ (g76 : TF76) (N : Nat) : Env A := { P := Tryz.prog, T := T, C := fun f => (C_F48_ g76).lookup f, tg := fun d => ([].lookup d).getD [], seqH := fun _ => none, loopH := fun i => [].lookup i, exitH := fun i => [].lookup i, cutL := fun _ => none, mode := fun f i => [].contains (f, i), keyed := keyT, flat := flatT, pin := [1] }
noncomputable def E_F48 (N : Nat) : Env A := E_F48_ (@F76 N) N
theorem tg_F48 (g76 : TF76) (N : Nat) (a1 : List (G_Contact)) (a2 : Int) (a3 : Int) (a4 : List UInt8) (a5 : List UInt8) (a6 : Int) (a7 : Int) (a8 : List UInt8) (a9 : List UInt8) (R : Type) (k : IV A → List (IV A) → Option R) : abody (E_F48_ g76 N) Tryz.f48 code_48 1 [0] [.asis] N [.d (.sl 58 a1), .fn 49 [.box [.d (.int .i64 a2), .d (.int .i64 a3), .d (.str a4), .d (.str a5), .d (.int .i64 a6), .d (.int .i64 a7), .d (.str a8), .d (.str a9)]]] k = SS_F48 (@F48_ g76 N) [.d (.sl 58 a1), .fn 49 [.box [.d (.int .i64 a2), .d (.int .i64 a3), .d (.str a4), .d (.str a5), .d (.int .i64 a6), .d (.int .i64 a7), .d (.str a8), .d (.str a9)]]] k := by kernel_rfl
theorem t_F48 (N : Nat) (a1 : List (G_Contact)) (a2 : Int) (a3 : Int) (a4 : List UInt8) (a5 : List UInt8) (a6 : Int) (a7 : Int) (a8 : List UInt8) (a9 : List UInt8) (R : Type) (k : IV A → List (IV A) → Option R) : abody (E_F48 N) Tryz.f48 code_48 1 [0] [.asis] N [.d (.sl 58 a1), .fn 49 [.box [.d (.int .i64 a2), .d (.int .i64 a3), .d (.str a4), .d (.str a5), .d (.int .i64 a6), .d (.int .i64 a7), .d (.str a8), .d (.str a9)]]] k = S_F48 N [.d (.sl 58 a1), .fn 49 [.box [.d (.int .i64 a2), .d (.int .i64 a3), .d (.str a4), .d (.str a5), .d (.int .i64 a6), .d (.int .i64 a7), .d (.str a8), .d (.str a9)]]] k := tg_F48 (@F76 N) N a1 a2 a3 a4 a5 a6 a7 a8 a9 R k
theorem en_48 : Enters Tryz.prog 48 := enters_of (fn := Tryz.f48) (by kernel_rfl) (by kernel_rfl) (by kernel_rfl)
theorem en_F48 : Enters Tryz.prog 48 := en_48
theorem tl_F48 (N : Nat) : TabL Tryz.prog T (C_F48 N) := (.cons (fs_F76 N) en_F76 .nil)
theorem nl_F48 (N : Nat) : NatL (C_F48 N) := (.cons (na_F76 N) .nil)
theorem ct_F48 (N : Nat) : NatTab (E_F48 N).C := tab_nat (l := C_F48 N) (nl_F48 N)
theorem eo_F48 (N : Nat) : EnvOk (E_F48 N) := ⟨tyOk Tryz.prog, tab_sound (l := C_F48 N) (tl_F48 N), flatOk, keysOk⟩
theorem ll_F48 : loopsOf code_48 = [] := by kernel_rfl
theorem fi_F48 (N : Nat) : FineL (E_F48 N) N [] := .nil
theorem cc_F48 (N : Nat) : CutsOk (E_F48 N) N code_48 := cuts_of (fun _ => rfl) code_48 (by rw [ll_F48]; exact fi_F48 N)
theorem v_F48 (args : List (IV A)) : (∀ (N : Nat) (R : Type) (k : IV A → List (IV A) → Option R), S_F48 N args k = none) ∨ ∃ (a1 : List (G_Contact)) (a2 : Int) (a3 : Int) (a4 : List UInt8) (a5 : List UInt8) (a6 : Int) (a7 : Int) (a8 : List UInt8) (a9 : List UInt8), args = [.d (.sl 58 a1), .fn 49 [.box [.d (.int .i64 a2), .d (.int .i64 a3), .d (.str a4), .d (.str a5), .d (.int .i64 a6), .d (.int .i64 a7), .d (.str a8), .d (.str a9)]]] := by
  by_cases h : ∃ (a1 : List (G_Contact)) (a2 : Int) (a3 : Int) (a4 : List UInt8) (a5 : List UInt8) (a6 : Int) (a7 : Int) (a8 : List UInt8) (a9 : List UInt8), args = [.d (.sl 58 a1), .fn 49 [.box [.d (.int .i64 a2), .d (.int .i64 a3), .d (.str a4), .d (.str a5), .d (.int .i64 a6), .d (.int .i64 a7), .d (.str a8), .d (.str a9)]]]
  · exact .inr h
  · refine .inl (fun N R k => ?_)
    unfold S_F48 SS_F48
    split
    · exact absurd ⟨_, _, _, _, _, _, _, _, _, rfl⟩ h
    · rfl
theorem sm_F48 (N : Nat) : Same (S_F48 N) (abody (E_F48 N) Tryz.f48 code_48 1 [0] [.asis] N) := by
  intro args
  rcases v_F48 args with h | ⟨a1, a2, a3, a4, a5, a6, a7, a8, a9, rfl⟩
  · exact .inl (h N)
  · exact .inr (fun R k => (t_F48 N a1 a2 a3 a4 a5 a6 a7 a8 a9 R k).symm)
theorem fu_48 : Tryz.prog.funcs[48]? = some Tryz.f48 := by kernel_rfl
theorem bo_48 : Tryz.f48.body = some code_48 := by kernel_rfl
theorem fs_F48 (N : Nat) : FnSound Tryz.prog T 48 (S_F48 N) := fs_of (E_F48 N) rfl rfl (eo_F48 N) (ct_F48 N) mixed fu_48 bo_48 1 [0] [.asis] N (cc_F48 N) (sm_F48 N)
theorem na_F48 (N : Nat) : NatSpec (S_F48 N) := na_of (E_F48 N) (ct_F48 N) Tryz.f48 code_48 1 [0] [.asis] N (cc_F48 N) (sm_F48 N)
end Go.Am
