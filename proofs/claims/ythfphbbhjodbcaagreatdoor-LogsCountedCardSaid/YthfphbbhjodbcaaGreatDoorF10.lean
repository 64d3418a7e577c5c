/- The functions of the program as Lean functions, each shown to be what the code computes, part 10. No condition: lemmas for the claim. -/
import Derived.Test.YthfphbbhjodbcaaGreatDoorF0
import Derived.Test.YthfphbbhjodbcaaGreatDoorFSh
import Derived.Test.YthfphbbhjodbcaaGreatDoorF6
import Derived.Test.YthfphbbhjodbcaaGreatDoorF7
import Derived.Test.YthfphbbhjodbcaaGreatDoorF9
set_option linter.unusedVariables false
set_option maxRecDepth 100000
namespace Go.Am
open Go Go.Proofs
def L19_3 (g48 : TF48) : Nat → Nat → List (G_Contact) → List (G_Contact) → Int → Int → List (Int) → {R : Type} → (List (Int) → Option R) → Option R
  | _, 0, _, _, _, _, _, _, _ => none
  | N, n + 1, v2, v3, v4, v5, v6, _, e0 => (bif (decide (v5 < v4)) then (bif (decide (0 ≤ v5)) then (match v3[(v5 : Int).toNat]? with | some x17 => (bif (decide (0 ≤ v5) && decide (v5 ≤ (v2.length : Int))) then (g48 ((v2.take (v5 : Int).toNat)) x17.f_At x17.f_Mode x17.f_Band x17.f_Call x17.f_Sent x17.f_Heard x17.f_Gave x17.f_Got (fun r18 r19 r20 r21 r22 r23 r24 r25 r26 => (bif r18 then (bif (decide ((v6.length + [v5].length) * 8 ≤ roomBytes')) then L19_3 g48 N n v2 v3 v4 ((IntKind.i64.wrap (v5 + 1))) (v6 ++ [v5]) e0 else none) else L19_3 g48 N n v2 v3 v4 ((IntKind.i64.wrap (v5 + 1))) v6 e0))) else none) | none => none) else none) else e0 v6)
abbrev TF19 : Type 1 := List (G_Contact) → {R : Type} → (List (Int) → Option R) → Option R
def F19_ (g48 : TF48) (N : Nat) (a1 : List (G_Contact)) {R : Type} (k0 : List (Int) → Option R) : Option R :=
  (L19_3 g48 N N a1 a1 (a1.length : Int) 0 [] (fun e27 => k0 e27))
def F19 (N : Nat) : TF19 := @F19_ (@F48 N) N
def p_F19 (args : List (IV A)) : Bool := match args with | [.d (.sl 58 _)] => true | _ => false
def SS_F19 (g : TF19) : Spec A := fun args _ k => match args with | [.d (.sl 58 a1)] => g a1 (fun z0 => k (.arr 3 z0) [.undef]) | _ => none
def S_F19 (N : Nat) : Spec A := SS_F19 (F19 N)
def sh_L19_3 : SSt := { fr := sparse .undef 24 [(0, .sl 58), (3, .own 3 0), (6, .sl 58), (7, .int .i64), (8, .int .i64)], st := sparse .none 4 [(0, .row 3)] }
def LP_L19_3 (g48 : TF48) (N n : Nat) (ps : List (Pv A)) {R : Type} (K : Ex → St A → Option R) : Option R := match ps with | [.d (.sl 58 p0), .d (.sl 58 p1), .d (.int .i64 p2), .d (.int .i64 p3), .d (.sl 3 p4)] => L19_3 g48 N n p0 p1 p2 p3 p4 (fun z0 => K (.exit 0) { fr := sparse .undef 24 [(3, .own 3 0)], st := sparse none 4 [(0, some (.row 3 z0))] }) | _ => none
def LS_L19_3 (g48 : TF48) (N n : Nat) : Piece A := fun S _ K => match decSt sh_L19_3 S with | some ps => LP_L19_3 g48 N n ps K | none => none
noncomputable def code_19 : Code := (Tryz.f19.body).getD .skip
def C_F19_ (g48 : TF48) : List (Nat × Spec A) := [(48, SS_F48 g48)]
def C_F19 (N : Nat) : List (Nat × Spec A) := C_F19_ (@F48 N)
noncomputable def E_F19_ (g48 : TF48) (N : Nat) : Env A := { P := Tryz.prog, T := T, C := fun f => (C_F19_ g48).lookup f, tg := fun d => ([(5, [1]), (20, [2]), (21, [3])].lookup d).getD [], seqH := fun _ => none, loopH := fun i => [(3, ({ keep := [0, 3, 6, 7, 8], canon := [(3, 3, 0)], stay := [] } : Hint))].lookup i, exitH := fun i => [(3, ({ keep := [3], canon := [], stay := [0] } : Hint))].lookup i, cutL := fun i => [(3, LS_L19_3 g48 N N)].lookup i, mode := fun f i => [].contains (f, i), keyed := keyT, flat := flatT, pin := [] }
noncomputable def E_F19 (N : Nat) : Env A := E_F19_ (@F48 N) N
theorem tg_F19 (g48 : TF48) (N : Nat) (a1 : List (G_Contact)) (R : Type) (k : IV A → List (IV A) → Option R) : abody (E_F19_ g48 N) Tryz.f19 code_19 4 [] [.arr 3] N [.d (.sl 58 a1)] k = SS_F19 (@F19_ g48 N) [.d (.sl 58 a1)] k := by kernel_rfl
theorem t_F19 (N : Nat) (a1 : List (G_Contact)) (R : Type) (k : IV A → List (IV A) → Option R) : abody (E_F19 N) Tryz.f19 code_19 4 [] [.arr 3] N [.d (.sl 58 a1)] k = S_F19 N [.d (.sl 58 a1)] k := tg_F19 (@F48 N) N a1 R k
noncomputable def cb_L19_3 : Code := sub [1, 1, 0, 1, 0, 0] code_19
noncomputable def bd_L19_3 (g48 : TF48) (N : Nat) : Piece A := around (fun S _ K => aexec (E_F19_ g48 N) N cb_L19_3 S K) ((firstReg cb_L19_3).bind (E_F19_ g48 N).loopH) ((firstReg cb_L19_3).bind (E_F19_ g48 N).exitH)
theorem b_L19_3 (g48 : TF48) (N n : Nat) (p0 : List (G_Contact)) (p1 : List (G_Contact)) (p2 : Int) (p3 : Int) (p4 : List (Int)) (R : Type) (K : Ex → St A → Option R) : bd_L19_3 g48 N { fr := sparse .undef 24 [(0, .d (.sl 58 p0)), (3, .own 3 0), (6, .d (.sl 58 p1)), (7, .d (.int .i64 p2)), (8, .d (.int .i64 p3))], st := sparse none 4 [(0, some (.row 3 p4))] } (fun e S' => match e with | .normal => LS_L19_3 g48 N n S' K | e => K e S') = LP_L19_3 g48 N (n + 1) [.d (.sl 58 p0), .d (.sl 58 p1), .d (.int .i64 p2), .d (.int .i64 p3), .d (.sl 3 p4)] K := by kernel_rfl
theorem m_L19_3 (g48 : TF48) (ps : List (Pv A)) : (∀ (N n : Nat) (R : Type) (K : Ex → St A → Option R), LP_L19_3 g48 N n ps K = none) ∨ ∃ (p0 : List (G_Contact)) (p1 : List (G_Contact)) (p2 : Int) (p3 : Int) (p4 : List (Int)), ps = [.d (.sl 58 p0), .d (.sl 58 p1), .d (.int .i64 p2), .d (.int .i64 p3), .d (.sl 3 p4)] := by
  by_cases h : ∃ (p0 : List (G_Contact)) (p1 : List (G_Contact)) (p2 : Int) (p3 : Int) (p4 : List (Int)), ps = [.d (.sl 58 p0), .d (.sl 58 p1), .d (.int .i64 p2), .d (.int .i64 p3), .d (.sl 3 p4)]
  · exact .inr h
  · refine .inl (fun N n R K => ?_)
    unfold LP_L19_3
    split
    · exact absurd ⟨_, _, _, _, _, rfl⟩ h
    · rfl
theorem s_L19_3 (g48 : TF48) (N n : Nat) (S : St A) : (∀ (R : Type) (K : Ex → St A → Option R), LS_L19_3 g48 N (n + 1) S K = none) ∨ ∀ (R : Type) (K : Ex → St A → Option R), LS_L19_3 g48 N (n + 1) S K = bd_L19_3 g48 N S (fun e S' => match e with | .normal => LS_L19_3 g48 N n S' K | e => K e S') := by
  cases hd : decSt sh_L19_3 S with
  | none => exact .inl (fun R K => by unfold LS_L19_3; rw [hd])
  | some ps =>
    have he := decSt_enc hd
    rcases m_L19_3 g48 ps with h | ⟨p0, p1, p2, p3, p4, rfl⟩
    · exact .inl (fun R K => by unfold LS_L19_3; rw [hd]; exact h N (n + 1) R K)
    · have hS : encSt (A := A) sh_L19_3 [.d (.sl 58 p0), .d (.sl 58 p1), .d (.int .i64 p2), .d (.int .i64 p3), .d (.sl 3 p4)] = some { fr := sparse .undef 24 [(0, .d (.sl 58 p0)), (3, .own 3 0), (6, .d (.sl 58 p1)), (7, .d (.int .i64 p2)), (8, .d (.int .i64 p3))], st := sparse none 4 [(0, some (.row 3 p4))] } := by kernel_rfl
      rw [hS] at he
      obtain rfl := Option.some.inj he
      refine .inr (fun R K => ?_)
      rw [b_L19_3]
      unfold LS_L19_3
      rw [hd]
theorem z_L19_3 (g48 : TF48) (N : Nat) (R : Type) (S : St A) (K : Ex → St A → Option R) : LS_L19_3 g48 N 0 S K = none := by
  unfold LS_L19_3
  cases decSt sh_L19_3 S with
  | none => rfl
  | some ps =>
    simp only
    unfold LP_L19_3
    split <;> (try unfold L19_3) <;> rfl
theorem en_19 : Enters Tryz.prog 19 := enters_of (fn := Tryz.f19) (by kernel_rfl) (by kernel_rfl) (by kernel_rfl)
theorem en_F19 : Enters Tryz.prog 19 := en_19
theorem tl_F19 (N : Nat) : TabL Tryz.prog T (C_F19 N) := (.cons (fs_F48 N) en_F48 .nil)
theorem nl_F19 (N : Nat) : NatL (C_F19 N) := (.cons (na_F48 N) .nil)
theorem ct_F19 (N : Nat) : NatTab (E_F19 N).C := tab_nat (l := C_F19 N) (nl_F19 N)
theorem eo_F19 (N : Nat) : EnvOk (E_F19 N) := ⟨tyOk Tryz.prog, tab_sound (l := C_F19 N) (tl_F19 N), flatOk, keysOk⟩
theorem ll_L19_3 : loopsOf cb_L19_3 = [] := by kernel_rfl
theorem fi_L19_3 (N : Nat) : FineL (E_F19 N) N [] := .nil
theorem cc_L19_3 (N : Nat) : CutsOk (E_F19 N) N cb_L19_3 := cuts_of (fun _ => rfl) cb_L19_3 (by rw [ll_L19_3]; exact fi_L19_3 N)
theorem cg_L19_3 (g48 : TF48) (N : Nat) : (firstReg cb_L19_3).bind (E_F19_ g48 N).cutL = some (LS_L19_3 g48 N N) := by kernel_rfl
theorem ce_L19_3 (N : Nat) : (firstReg cb_L19_3).bind (E_F19 N).cutL = some (LS_L19_3 (@F48 N) N N) := cg_L19_3 (@F48 N) N
theorem lf_L19_3 (N : Nat) : LoopFine (E_F19 N) N cb_L19_3 := fine_of (LS_L19_3 (@F48 N) N) (ce_L19_3 N) (ct_F19 N) (cc_L19_3 N) (z_L19_3 (@F48 N) N) (s_L19_3 (@F48 N) N)
theorem ll_F19 : loopsOf code_19 = [cb_L19_3] := by kernel_rfl
theorem fi_F19 (N : Nat) : FineL (E_F19 N) N [cb_L19_3] := (.cons (lf_L19_3 N) .nil)
theorem cc_F19 (N : Nat) : CutsOk (E_F19 N) N code_19 := cuts_of (fun _ => rfl) code_19 (by rw [ll_F19]; exact fi_F19 N)
theorem v_F19 (args : List (IV A)) : (∀ (N : Nat) (R : Type) (k : IV A → List (IV A) → Option R), S_F19 N args k = none) ∨ ∃ (a1 : List (G_Contact)), args = [.d (.sl 58 a1)] := by
  by_cases h : ∃ (a1 : List (G_Contact)), args = [.d (.sl 58 a1)]
  · exact .inr h
  · refine .inl (fun N R k => ?_)
    unfold S_F19 SS_F19
    split
    · exact absurd ⟨_, rfl⟩ h
    · rfl
theorem sm_F19 (N : Nat) : Same (S_F19 N) (abody (E_F19 N) Tryz.f19 code_19 4 [] [.arr 3] N) := by
  intro args
  rcases v_F19 args with h | ⟨a1, rfl⟩
  · exact .inl (h N)
  · exact .inr (fun R k => (t_F19 N a1 R k).symm)
theorem fu_19 : Tryz.prog.funcs[19]? = some Tryz.f19 := by kernel_rfl
theorem bo_19 : Tryz.f19.body = some code_19 := by kernel_rfl
theorem fs_F19 (N : Nat) : FnSound Tryz.prog T 19 (S_F19 N) := fs_of (E_F19 N) rfl rfl (eo_F19 N) (ct_F19 N) mixed fu_19 bo_19 4 [] [.arr 3] N (cc_F19 N) (sm_F19 N)
theorem na_F19 (N : Nat) : NatSpec (S_F19 N) := na_of (E_F19 N) (ct_F19 N) Tryz.f19 code_19 4 [] [.arr 3] N (cc_F19 N) (sm_F19 N)
def L20_5 (g29 : TF29) (g47 : TF47) : Nat → Nat → Int → Int → Int → List (G_Contact) → {R : Type} → (List (G_Contact) → Option R) → Option R
  | _, 0, _, _, _, _, _, _ => none
  | N, n + 1, v5, v6, v7, v8, _, e0 => (bif (decide (v7 < v6)) then (bif (decide (0 ≤ v7) && decide (v7 < (v8.length : Int))) then (match v8[(v7 : Int).toNat]? with | some x10 => L20_5 g29 g47 N n v5 v6 ((IntKind.i64.wrap (v7 + 1))) ((v8.set (v7 : Int).toNat (⟨x10.f_At, x10.f_Mode, x10.f_Band, x10.f_Call, (IntKind.i64.wrap (v5 + v7)), x10.f_Heard, x10.f_Gave, x10.f_Got⟩ : G_Contact))) e0 | none => none) else none) else e0 v8)
abbrev TF20 : Type 1 := List (G_Contact) → Int → {R : Type} → (List (G_Contact) → Int → Option R) → Option R
def F20_ (g29 : TF29) (g47 : TF47) (N : Nat) (a1 : List (G_Contact)) (a2 : Int) {R : Type} (k0 : List (G_Contact) → Int → Option R) : Option R :=
  (g47 a2 1 99999 (fun r3 => (bif (!r3) then k0 [] 1 else (bif (decide ((IntKind.i64.wrap ((IntKind.i64.wrap (a2 + (a1.length : Int))) - 1)) > 99999)) then k0 [] 1 else (g29 a1 (fun r4 => (L20_5 g29 g47 N N a2 (r4.length : Int) 0 r4 (fun e11 => k0 e11 0))))))))
def F20 (N : Nat) : TF20 := @F20_ (@F29 N) (@F47 N) N
def p_F20 (args : List (IV A)) : Bool := match args with | [.d (.sl 58 _), .d (.int .i64 _)] => true | _ => false
def SS_F20 (g : TF20) : Spec A := fun args _ k => match args with | [.d (.sl 58 a1), .d (.int .i64 a2)] => g a1 a2 (fun z0 z1 => k (.tup [.arr 58 z0, .d (.int .i64 z1)]) [.undef, .undef]) | _ => none
def S_F20 (N : Nat) : Spec A := SS_F20 (F20 N)
def sh_L20_5 : SSt := { fr := sparse .undef 35 [(1, .int .i64), (6, .own 58 0), (22, .int .i64), (23, .int .i64)], st := sparse .none 1 [(0, .row 58)] }
def LP_L20_5 (g29 : TF29) (g47 : TF47) (N n : Nat) (ps : List (Pv A)) {R : Type} (K : Ex → St A → Option R) : Option R := match ps with | [.d (.int .i64 p0), .d (.int .i64 p1), .d (.int .i64 p2), .d (.sl 58 p3)] => L20_5 g29 g47 N n p0 p1 p2 p3 (fun z0 => K (.exit 0) { fr := sparse .undef 35 [(6, .own 58 0)], st := sparse none 1 [(0, some (.row 58 z0))] }) | _ => none
def LS_L20_5 (g29 : TF29) (g47 : TF47) (N n : Nat) : Piece A := fun S _ K => match decSt sh_L20_5 S with | some ps => LP_L20_5 g29 g47 N n ps K | none => none
noncomputable def code_20 : Code := (Tryz.f20.body).getD .skip
def C_F20_ (g29 : TF29) (g47 : TF47) : List (Nat × Spec A) := [(29, SS_F29 g29), (47, SS_F47 g47)]
def C_F20 (N : Nat) : List (Nat × Spec A) := C_F20_ (@F29 N) (@F47 N)
noncomputable def E_F20_ (g29 : TF29) (g47 : TF47) (N : Nat) : Env A := { P := Tryz.prog, T := T, C := fun f => (C_F20_ g29 g47).lookup f, tg := fun d => ([(20, [0])].lookup d).getD [], seqH := fun _ => none, loopH := fun i => [(5, ({ keep := [1, 6, 22, 23], canon := [], stay := [0] } : Hint))].lookup i, exitH := fun i => [(5, ({ keep := [6], canon := [], stay := [0] } : Hint))].lookup i, cutL := fun i => [(5, LS_L20_5 g29 g47 N N)].lookup i, mode := fun f i => [].contains (f, i), keyed := keyT, flat := flatT, pin := [] }
noncomputable def E_F20 (N : Nat) : Env A := E_F20_ (@F29 N) (@F47 N) N
theorem tg_F20 (g29 : TF29) (g47 : TF47) (N : Nat) (a1 : List (G_Contact)) (a2 : Int) (R : Type) (k : IV A → List (IV A) → Option R) : abody (E_F20_ g29 g47 N) Tryz.f20 code_20 1 [] [.arr 58, .asis] N [.d (.sl 58 a1), .d (.int .i64 a2)] k = SS_F20 (@F20_ g29 g47 N) [.d (.sl 58 a1), .d (.int .i64 a2)] k := by kernel_rfl
theorem t_F20 (N : Nat) (a1 : List (G_Contact)) (a2 : Int) (R : Type) (k : IV A → List (IV A) → Option R) : abody (E_F20 N) Tryz.f20 code_20 1 [] [.arr 58, .asis] N [.d (.sl 58 a1), .d (.int .i64 a2)] k = S_F20 N [.d (.sl 58 a1), .d (.int .i64 a2)] k := tg_F20 (@F29 N) (@F47 N) N a1 a2 R k
noncomputable def cb_L20_5 : Code := sub [1, 1, 1, 0, 1, 0, 0] code_20
noncomputable def bd_L20_5 (g29 : TF29) (g47 : TF47) (N : Nat) : Piece A := around (fun S _ K => aexec (E_F20_ g29 g47 N) N cb_L20_5 S K) ((firstReg cb_L20_5).bind (E_F20_ g29 g47 N).loopH) ((firstReg cb_L20_5).bind (E_F20_ g29 g47 N).exitH)
theorem b_L20_5 (g29 : TF29) (g47 : TF47) (N n : Nat) (p0 : Int) (p1 : Int) (p2 : Int) (p3 : List (G_Contact)) (R : Type) (K : Ex → St A → Option R) : bd_L20_5 g29 g47 N { fr := sparse .undef 35 [(1, .d (.int .i64 p0)), (6, .own 58 0), (22, .d (.int .i64 p1)), (23, .d (.int .i64 p2))], st := sparse none 1 [(0, some (.row 58 p3))] } (fun e S' => match e with | .normal => LS_L20_5 g29 g47 N n S' K | e => K e S') = LP_L20_5 g29 g47 N (n + 1) [.d (.int .i64 p0), .d (.int .i64 p1), .d (.int .i64 p2), .d (.sl 58 p3)] K := by kernel_rfl
theorem m_L20_5 (g29 : TF29) (g47 : TF47) (ps : List (Pv A)) : (∀ (N n : Nat) (R : Type) (K : Ex → St A → Option R), LP_L20_5 g29 g47 N n ps K = none) ∨ ∃ (p0 : Int) (p1 : Int) (p2 : Int) (p3 : List (G_Contact)), ps = [.d (.int .i64 p0), .d (.int .i64 p1), .d (.int .i64 p2), .d (.sl 58 p3)] := by
  by_cases h : ∃ (p0 : Int) (p1 : Int) (p2 : Int) (p3 : List (G_Contact)), ps = [.d (.int .i64 p0), .d (.int .i64 p1), .d (.int .i64 p2), .d (.sl 58 p3)]
  · exact .inr h
  · refine .inl (fun N n R K => ?_)
    unfold LP_L20_5
    split
    · exact absurd ⟨_, _, _, _, rfl⟩ h
    · rfl
theorem s_L20_5 (g29 : TF29) (g47 : TF47) (N n : Nat) (S : St A) : (∀ (R : Type) (K : Ex → St A → Option R), LS_L20_5 g29 g47 N (n + 1) S K = none) ∨ ∀ (R : Type) (K : Ex → St A → Option R), LS_L20_5 g29 g47 N (n + 1) S K = bd_L20_5 g29 g47 N S (fun e S' => match e with | .normal => LS_L20_5 g29 g47 N n S' K | e => K e S') := by
  cases hd : decSt sh_L20_5 S with
  | none => exact .inl (fun R K => by unfold LS_L20_5; rw [hd])
  | some ps =>
    have he := decSt_enc hd
    rcases m_L20_5 g29 g47 ps with h | ⟨p0, p1, p2, p3, rfl⟩
    · exact .inl (fun R K => by unfold LS_L20_5; rw [hd]; exact h N (n + 1) R K)
    · have hS : encSt (A := A) sh_L20_5 [.d (.int .i64 p0), .d (.int .i64 p1), .d (.int .i64 p2), .d (.sl 58 p3)] = some { fr := sparse .undef 35 [(1, .d (.int .i64 p0)), (6, .own 58 0), (22, .d (.int .i64 p1)), (23, .d (.int .i64 p2))], st := sparse none 1 [(0, some (.row 58 p3))] } := by kernel_rfl
      rw [hS] at he
      obtain rfl := Option.some.inj he
      refine .inr (fun R K => ?_)
      rw [b_L20_5]
      unfold LS_L20_5
      rw [hd]
theorem z_L20_5 (g29 : TF29) (g47 : TF47) (N : Nat) (R : Type) (S : St A) (K : Ex → St A → Option R) : LS_L20_5 g29 g47 N 0 S K = none := by
  unfold LS_L20_5
  cases decSt sh_L20_5 S with
  | none => rfl
  | some ps =>
    simp only
    unfold LP_L20_5
    split <;> (try unfold L20_5) <;> rfl
theorem en_20 : Enters Tryz.prog 20 := enters_of (fn := Tryz.f20) (by kernel_rfl) (by kernel_rfl) (by kernel_rfl)
theorem en_F20 : Enters Tryz.prog 20 := en_20
theorem tl_F20 (N : Nat) : TabL Tryz.prog T (C_F20 N) := (.cons (fs_F29 N) en_F29 (.cons (fs_F47 N) en_F47 .nil))
theorem nl_F20 (N : Nat) : NatL (C_F20 N) := (.cons (na_F29 N) (.cons (na_F47 N) .nil))
theorem ct_F20 (N : Nat) : NatTab (E_F20 N).C := tab_nat (l := C_F20 N) (nl_F20 N)
theorem eo_F20 (N : Nat) : EnvOk (E_F20 N) := ⟨tyOk Tryz.prog, tab_sound (l := C_F20 N) (tl_F20 N), flatOk, keysOk⟩
theorem ll_L20_5 : loopsOf cb_L20_5 = [] := by kernel_rfl
theorem fi_L20_5 (N : Nat) : FineL (E_F20 N) N [] := .nil
theorem cc_L20_5 (N : Nat) : CutsOk (E_F20 N) N cb_L20_5 := cuts_of (fun _ => rfl) cb_L20_5 (by rw [ll_L20_5]; exact fi_L20_5 N)
theorem cg_L20_5 (g29 : TF29) (g47 : TF47) (N : Nat) : (firstReg cb_L20_5).bind (E_F20_ g29 g47 N).cutL = some (LS_L20_5 g29 g47 N N) := by kernel_rfl
theorem ce_L20_5 (N : Nat) : (firstReg cb_L20_5).bind (E_F20 N).cutL = some (LS_L20_5 (@F29 N) (@F47 N) N N) := cg_L20_5 (@F29 N) (@F47 N) N
theorem lf_L20_5 (N : Nat) : LoopFine (E_F20 N) N cb_L20_5 := fine_of (LS_L20_5 (@F29 N) (@F47 N) N) (ce_L20_5 N) (ct_F20 N) (cc_L20_5 N) (z_L20_5 (@F29 N) (@F47 N) N) (s_L20_5 (@F29 N) (@F47 N) N)
theorem ll_F20 : loopsOf code_20 = [cb_L20_5] := by kernel_rfl
theorem fi_F20 (N : Nat) : FineL (E_F20 N) N [cb_L20_5] := (.cons (lf_L20_5 N) .nil)
theorem cc_F20 (N : Nat) : CutsOk (E_F20 N) N code_20 := cuts_of (fun _ => rfl) code_20 (by rw [ll_F20]; exact fi_F20 N)
theorem v_F20 (args : List (IV A)) : (∀ (N : Nat) (R : Type) (k : IV A → List (IV A) → Option R), S_F20 N args k = none) ∨ ∃ (a1 : List (G_Contact)) (a2 : Int), args = [.d (.sl 58 a1), .d (.int .i64 a2)] := by
  by_cases h : ∃ (a1 : List (G_Contact)) (a2 : Int), args = [.d (.sl 58 a1), .d (.int .i64 a2)]
  · exact .inr h
  · refine .inl (fun N R k => ?_)
    unfold S_F20 SS_F20
    split
    · exact absurd ⟨_, _, rfl⟩ h
    · rfl
theorem sm_F20 (N : Nat) : Same (S_F20 N) (abody (E_F20 N) Tryz.f20 code_20 1 [] [.arr 58, .asis] N) := by
  intro args
  rcases v_F20 args with h | ⟨a1, a2, rfl⟩
  · exact .inl (h N)
  · exact .inr (fun R k => (t_F20 N a1 a2 R k).symm)
theorem fu_20 : Tryz.prog.funcs[20]? = some Tryz.f20 := by kernel_rfl
theorem bo_20 : Tryz.f20.body = some code_20 := by kernel_rfl
theorem fs_F20 (N : Nat) : FnSound Tryz.prog T 20 (S_F20 N) := fs_of (E_F20 N) rfl rfl (eo_F20 N) (ct_F20 N) mixed fu_20 bo_20 1 [] [.arr 58, .asis] N (cc_F20 N) (sm_F20 N)
theorem na_F20 (N : Nat) : NatSpec (S_F20 N) := na_of (E_F20 N) (ct_F20 N) Tryz.f20 code_20 1 [] [.arr 58, .asis] N (cc_F20 N) (sm_F20 N)
abbrev TF51 : Type 1 := Int → Int → Int → List (G_Window) → {R : Type} → (Int → Int → List (G_Window) → Option R) → Option R
def F51_ (N : Nat) (a1 : Int) (a2 : Int) (a3 : Int) (a4 : List (G_Window)) {R : Type} (k0 : Int → Int → List (G_Window) → Option R) : Option R :=
  (bif (decide (a1 > a2)) then (bif (decide ((IntKind.i64.wrap (a1 - a2)) ≥ a3)) then (bif (decide ((a4.length + [(⟨a2, a1⟩ : G_Window)].length) * 16 ≤ roomBytes')) then k0 a2 a3 ((a4 ++ [(⟨a2, a1⟩ : G_Window)])) else none) else k0 a2 a3 a4) else k0 a2 a3 a4)
def F51 (N : Nat) : TF51 := @F51_ N
def p_F51 (args : List (IV A)) : Bool := match args with | [.d (.int .i64 _), .box [.d (.int .i64 _)], .box [.d (.int .i64 _)], .box [.arr 31 _]] => true | _ => false
def SS_F51 (g : TF51) : Spec A := fun args _ k => match args with | [.d (.int .i64 a1), .box [.d (.int .i64 a2)], .box [.d (.int .i64 a3)], .box [.arr 31 a4]] => g a1 a2 a3 a4 (fun z0 z1 z2 => k (.tup []) [.undef, .box [.d (.int .i64 z0)], .box [.d (.int .i64 z1)], .box [.arr 31 z2]]) | _ => none
def S_F51 (N : Nat) : Spec A := SS_F51 (F51 N)
noncomputable def code_51 : Code := (Tryz.f51.body).getD .skip
def C_F51_ : List (Nat × Spec A) := []
def C_F51 (N : Nat) : List (Nat × Spec A) := C_F51_
noncomputable def E_F51_ (N : Nat) : Env A := { P := Tryz.prog, T := T, C := fun f => (C_F51_).lookup f, tg := fun d => ([(19, [4]), (20, [5])].lookup d).getD [], seqH := fun _ => none, loopH := fun i => [].lookup i, exitH := fun i => [].lookup i, cutL := fun _ => none, mode := fun f i => [].contains (f, i), keyed := keyT, flat := flatT, pin := [1, 2, 3] }
noncomputable def E_F51 (N : Nat) : Env A := E_F51_ N
theorem tg_F51 (N : Nat) (a1 : Int) (a2 : Int) (a3 : Int) (a4 : List (G_Window)) (R : Type) (k : IV A → List (IV A) → Option R) : abody (E_F51_ N) Tryz.f51 code_51 6 [0, 1, 2, 3] [] N [.d (.int .i64 a1), .box [.d (.int .i64 a2)], .box [.d (.int .i64 a3)], .box [.arr 31 a4]] k = SS_F51 (@F51_ N) [.d (.int .i64 a1), .box [.d (.int .i64 a2)], .box [.d (.int .i64 a3)], .box [.arr 31 a4]] k := by kernel_rfl
theorem t_F51 (N : Nat) (a1 : Int) (a2 : Int) (a3 : Int) (a4 : List (G_Window)) (R : Type) (k : IV A → List (IV A) → Option R) : abody (E_F51 N) Tryz.f51 code_51 6 [0, 1, 2, 3] [] N [.d (.int .i64 a1), .box [.d (.int .i64 a2)], .box [.d (.int .i64 a3)], .box [.arr 31 a4]] k = S_F51 N [.d (.int .i64 a1), .box [.d (.int .i64 a2)], .box [.d (.int .i64 a3)], .box [.arr 31 a4]] k := tg_F51 N a1 a2 a3 a4 R k
theorem en_51 : Enters Tryz.prog 51 := enters_of (fn := Tryz.f51) (by kernel_rfl) (by kernel_rfl) (by kernel_rfl)
theorem en_F51 : Enters Tryz.prog 51 := en_51
theorem tl_F51 (N : Nat) : TabL Tryz.prog T (C_F51 N) := .nil
theorem nl_F51 (N : Nat) : NatL (C_F51 N) := .nil
theorem ct_F51 (N : Nat) : NatTab (E_F51 N).C := tab_nat (l := C_F51 N) (nl_F51 N)
theorem eo_F51 (N : Nat) : EnvOk (E_F51 N) := ⟨tyOk Tryz.prog, tab_sound (l := C_F51 N) (tl_F51 N), flatOk, keysOk⟩
theorem ll_F51 : loopsOf code_51 = [] := by kernel_rfl
theorem fi_F51 (N : Nat) : FineL (E_F51 N) N [] := .nil
theorem cc_F51 (N : Nat) : CutsOk (E_F51 N) N code_51 := cuts_of (fun _ => rfl) code_51 (by rw [ll_F51]; exact fi_F51 N)
theorem v_F51 (args : List (IV A)) : (∀ (N : Nat) (R : Type) (k : IV A → List (IV A) → Option R), S_F51 N args k = none) ∨ ∃ (a1 : Int) (a2 : Int) (a3 : Int) (a4 : List (G_Window)), args = [.d (.int .i64 a1), .box [.d (.int .i64 a2)], .box [.d (.int .i64 a3)], .box [.arr 31 a4]] := by
  by_cases h : ∃ (a1 : Int) (a2 : Int) (a3 : Int) (a4 : List (G_Window)), args = [.d (.int .i64 a1), .box [.d (.int .i64 a2)], .box [.d (.int .i64 a3)], .box [.arr 31 a4]]
  · exact .inr h
  · refine .inl (fun N R k => ?_)
    unfold S_F51 SS_F51
    split
    · exact absurd ⟨_, _, _, _, rfl⟩ h
    · rfl
theorem sm_F51 (N : Nat) : Same (S_F51 N) (abody (E_F51 N) Tryz.f51 code_51 6 [0, 1, 2, 3] [] N) := by
  intro args
  rcases v_F51 args with h | ⟨a1, a2, a3, a4, rfl⟩
  · exact .inl (h N)
  · exact .inr (fun R k => (t_F51 N a1 a2 a3 a4 R k).symm)
theorem fu_51 : Tryz.prog.funcs[51]? = some Tryz.f51 := by kernel_rfl
theorem bo_51 : Tryz.f51.body = some code_51 := by kernel_rfl
theorem fs_F51 (N : Nat) : FnSound Tryz.prog T 51 (S_F51 N) := fs_of (E_F51 N) rfl rfl (eo_F51 N) (ct_F51 N) mixed fu_51 bo_51 6 [0, 1, 2, 3] [] N (cc_F51 N) (sm_F51 N)
theorem na_F51 (N : Nat) : NatSpec (S_F51 N) := na_of (E_F51 N) (ct_F51 N) Tryz.f51 code_51 6 [0, 1, 2, 3] [] N (cc_F51 N) (sm_F51 N)
def L21_5 (g51 : TF51) : Nat → Nat → List (G_Contact) → Int → Int → Int → Int → Int → Int → List (G_Window) → {R : Type} → (Int → Int → Int → Int → List (G_Window) → Option R) → Option R
  | _, 0, _, _, _, _, _, _, _, _, _, _ => none
  | N, n + 1, v5, v6, v7, v8, v9, v10, v11, v12, _, e0 => (bif (decide (v7 < v6)) then (bif (decide (0 ≤ v7)) then (match v5[(v7 : Int).toNat]? with | some x17 => (bif (decide (v8 ≤ x17.f_At)) then (bif (decide (x17.f_At < v9)) then (g51 x17.f_At v11 v10 v12 (fun r18 r19 r20 => L21_5 g51 N n v5 v6 ((IntKind.i64.wrap (v7 + 1))) v8 v9 r19 ((IntKind.i64.wrap (x17.f_At + 1))) r20 e0)) else L21_5 g51 N n v5 v6 ((IntKind.i64.wrap (v7 + 1))) v8 v9 v10 v11 v12 e0) else L21_5 g51 N n v5 v6 ((IntKind.i64.wrap (v7 + 1))) v8 v9 v10 v11 v12 e0) | none => none) else none) else e0 v8 v9 v10 v11 v12)
abbrev TF21 : Type 1 := List (G_Contact) → Int → Int → Int → {R : Type} → (List (G_Window) → Option R) → Option R
def F21_ (g51 : TF51) (N : Nat) (a1 : List (G_Contact)) (a2 : Int) (a3 : Int) (a4 : Int) {R : Type} (k0 : List (G_Window) → Option R) : Option R :=
  (L21_5 g51 N N a1 (a1.length : Int) 0 a2 a3 a4 a2 [] (fun e21 e22 e23 e24 e25 => (g51 e22 e24 e23 e25 (fun r26 r27 r28 => k0 r28))))
def F21 (N : Nat) : TF21 := @F21_ (@F51 N) N
def p_F21 (args : List (IV A)) : Bool := match args with | [.d (.sl 58 _), .agg [.d (.int .i64 _), .d (.int .i64 _)], .d (.int .i64 _)] => true | _ => false
def SS_F21 (g : TF21) : Spec A := fun args _ k => match args with | [.d (.sl 58 a1), .agg [.d (.int .i64 a2), .d (.int .i64 a3)], .d (.int .i64 a4)] => g a1 a2 a3 a4 (fun z0 => k (.arr 31 z0) [.undef, .undef, .undef]) | _ => none
def S_F21 (N : Nat) : Spec A := SS_F21 (F21 N)
def sh_L21_5 : SSt := { fr := sparse .undef 46 [(4, .ptr 0 0), (7, .ptr 2 0), (8, .ptr 3 0), (9, .fn 51 [.ptr 2 0, .ptr 1 0, .ptr 3 0]), (15, .sl 58), (16, .int .i64), (17, .int .i64)], st := sparse .none 8 [(0, .box [.int .i64, .int .i64]), (1, .box [.int .i64]), (2, .box [.int .i64]), (3, .box [.own 31 4]), (4, .row 31)] }
def LP_L21_5 (g51 : TF51) (N n : Nat) (ps : List (Pv A)) {R : Type} (K : Ex → St A → Option R) : Option R := match ps with | [.d (.sl 58 p0), .d (.int .i64 p1), .d (.int .i64 p2), .d (.int .i64 p3), .d (.int .i64 p4), .d (.int .i64 p5), .d (.int .i64 p6), .d (.sl 31 p7)] => L21_5 g51 N n p0 p1 p2 p3 p4 p5 p6 p7 (fun z0 z1 z2 z3 z4 => K (.exit 0) { fr := sparse .undef 46 [(4, .ptr 0 0), (8, .ptr 3 0), (9, .fn 51 [.ptr 2 0, .ptr 1 0, .ptr 3 0])], st := sparse none 8 [(0, some (.box [.d (.int .i64 z0), .d (.int .i64 z1)])), (1, some (.box [.d (.int .i64 z2)])), (2, some (.box [.d (.int .i64 z3)])), (3, some (.box [.own 31 4])), (4, some (.row 31 z4))] }) | _ => none
def LS_L21_5 (g51 : TF51) (N n : Nat) : Piece A := fun S _ K => match decSt sh_L21_5 S with | some ps => LP_L21_5 g51 N n ps K | none => none
noncomputable def code_21 : Code := (Tryz.f21.body).getD .skip
def C_F21_ (g51 : TF51) : List (Nat × Spec A) := [(51, SS_F51 g51)]
def C_F21 (N : Nat) : List (Nat × Spec A) := C_F21_ (@F51 N)
noncomputable def E_F21_ (g51 : TF51) (N : Nat) : Env A := { P := Tryz.prog, T := T, C := fun f => (C_F21_ g51).lookup f, tg := fun d => ([(4, [0]), (5, [1]), (7, [2]), (8, [3]), (11, [5]), (36, [6]), (44, [7])].lookup d).getD [], seqH := fun _ => none, loopH := fun i => [(5, ({ keep := [4, 7, 8, 9, 15, 16, 17], canon := [], stay := [0, 1, 2, 3], boxes := [(3, 0, 31, 4)] } : Hint))].lookup i, exitH := fun i => [(5, ({ keep := [4, 8, 9], canon := [], stay := [0, 1, 2, 3, 4] } : Hint))].lookup i, cutL := fun i => [(5, LS_L21_5 g51 N N)].lookup i, mode := fun f i => [].contains (f, i), keyed := keyT, flat := flatT, pin := [] }
noncomputable def E_F21 (N : Nat) : Env A := E_F21_ (@F51 N) N
theorem tg_F21 (g51 : TF51) (N : Nat) (a1 : List (G_Contact)) (a2 : Int) (a3 : Int) (a4 : Int) (R : Type) (k : IV A → List (IV A) → Option R) : abody (E_F21_ g51 N) Tryz.f21 code_21 8 [] [.arr 31] N [.d (.sl 58 a1), .agg [.d (.int .i64 a2), .d (.int .i64 a3)], .d (.int .i64 a4)] k = SS_F21 (@F21_ g51 N) [.d (.sl 58 a1), .agg [.d (.int .i64 a2), .d (.int .i64 a3)], .d (.int .i64 a4)] k := by kernel_rfl
theorem t_F21 (N : Nat) (a1 : List (G_Contact)) (a2 : Int) (a3 : Int) (a4 : Int) (R : Type) (k : IV A → List (IV A) → Option R) : abody (E_F21 N) Tryz.f21 code_21 8 [] [.arr 31] N [.d (.sl 58 a1), .agg [.d (.int .i64 a2), .d (.int .i64 a3)], .d (.int .i64 a4)] k = S_F21 N [.d (.sl 58 a1), .agg [.d (.int .i64 a2), .d (.int .i64 a3)], .d (.int .i64 a4)] k := tg_F21 (@F51 N) N a1 a2 a3 a4 R k
noncomputable def cb_L21_5 : Code := sub [1, 1, 1, 1, 0, 1, 0, 0] code_21
noncomputable def bd_L21_5 (g51 : TF51) (N : Nat) : Piece A := around (fun S _ K => aexec (E_F21_ g51 N) N cb_L21_5 S K) ((firstReg cb_L21_5).bind (E_F21_ g51 N).loopH) ((firstReg cb_L21_5).bind (E_F21_ g51 N).exitH)
theorem b_L21_5 (g51 : TF51) (N n : Nat) (p0 : List (G_Contact)) (p1 : Int) (p2 : Int) (p3 : Int) (p4 : Int) (p5 : Int) (p6 : Int) (p7 : List (G_Window)) (R : Type) (K : Ex → St A → Option R) : bd_L21_5 g51 N { fr := sparse .undef 46 [(4, .ptr 0 0), (7, .ptr 2 0), (8, .ptr 3 0), (9, .fn 51 [.ptr 2 0, .ptr 1 0, .ptr 3 0]), (15, .d (.sl 58 p0)), (16, .d (.int .i64 p1)), (17, .d (.int .i64 p2))], st := sparse none 8 [(0, some (.box [.d (.int .i64 p3), .d (.int .i64 p4)])), (1, some (.box [.d (.int .i64 p5)])), (2, some (.box [.d (.int .i64 p6)])), (3, some (.box [.own 31 4])), (4, some (.row 31 p7))] } (fun e S' => match e with | .normal => LS_L21_5 g51 N n S' K | e => K e S') = LP_L21_5 g51 N (n + 1) [.d (.sl 58 p0), .d (.int .i64 p1), .d (.int .i64 p2), .d (.int .i64 p3), .d (.int .i64 p4), .d (.int .i64 p5), .d (.int .i64 p6), .d (.sl 31 p7)] K := by kernel_rfl
theorem m_L21_5 (g51 : TF51) (ps : List (Pv A)) : (∀ (N n : Nat) (R : Type) (K : Ex → St A → Option R), LP_L21_5 g51 N n ps K = none) ∨ ∃ (p0 : List (G_Contact)) (p1 : Int) (p2 : Int) (p3 : Int) (p4 : Int) (p5 : Int) (p6 : Int) (p7 : List (G_Window)), ps = [.d (.sl 58 p0), .d (.int .i64 p1), .d (.int .i64 p2), .d (.int .i64 p3), .d (.int .i64 p4), .d (.int .i64 p5), .d (.int .i64 p6), .d (.sl 31 p7)] := by
  by_cases h : ∃ (p0 : List (G_Contact)) (p1 : Int) (p2 : Int) (p3 : Int) (p4 : Int) (p5 : Int) (p6 : Int) (p7 : List (G_Window)), ps = [.d (.sl 58 p0), .d (.int .i64 p1), .d (.int .i64 p2), .d (.int .i64 p3), .d (.int .i64 p4), .d (.int .i64 p5), .d (.int .i64 p6), .d (.sl 31 p7)]
  · exact .inr h
  · refine .inl (fun N n R K => ?_)
    unfold LP_L21_5
    split
    · exact absurd ⟨_, _, _, _, _, _, _, _, rfl⟩ h
    · rfl
theorem s_L21_5 (g51 : TF51) (N n : Nat) (S : St A) : (∀ (R : Type) (K : Ex → St A → Option R), LS_L21_5 g51 N (n + 1) S K = none) ∨ ∀ (R : Type) (K : Ex → St A → Option R), LS_L21_5 g51 N (n + 1) S K = bd_L21_5 g51 N S (fun e S' => match e with | .normal => LS_L21_5 g51 N n S' K | e => K e S') := by
  cases hd : decSt sh_L21_5 S with
  | none => exact .inl (fun R K => by unfold LS_L21_5; rw [hd])
  | some ps =>
    have he := decSt_enc hd
    rcases m_L21_5 g51 ps with h | ⟨p0, p1, p2, p3, p4, p5, p6, p7, rfl⟩
    · exact .inl (fun R K => by unfold LS_L21_5; rw [hd]; exact h N (n + 1) R K)
    · have hS : encSt (A := A) sh_L21_5 [.d (.sl 58 p0), .d (.int .i64 p1), .d (.int .i64 p2), .d (.int .i64 p3), .d (.int .i64 p4), .d (.int .i64 p5), .d (.int .i64 p6), .d (.sl 31 p7)] = some { fr := sparse .undef 46 [(4, .ptr 0 0), (7, .ptr 2 0), (8, .ptr 3 0), (9, .fn 51 [.ptr 2 0, .ptr 1 0, .ptr 3 0]), (15, .d (.sl 58 p0)), (16, .d (.int .i64 p1)), (17, .d (.int .i64 p2))], st := sparse none 8 [(0, some (.box [.d (.int .i64 p3), .d (.int .i64 p4)])), (1, some (.box [.d (.int .i64 p5)])), (2, some (.box [.d (.int .i64 p6)])), (3, some (.box [.own 31 4])), (4, some (.row 31 p7))] } := by kernel_rfl
      rw [hS] at he
      obtain rfl := Option.some.inj he
      refine .inr (fun R K => ?_)
      rw [b_L21_5]
      unfold LS_L21_5
      rw [hd]
theorem z_L21_5 (g51 : TF51) (N : Nat) (R : Type) (S : St A) (K : Ex → St A → Option R) : LS_L21_5 g51 N 0 S K = none := by
  unfold LS_L21_5
  cases decSt sh_L21_5 S with
  | none => rfl
  | some ps =>
    simp only
    unfold LP_L21_5
    split <;> (try unfold L21_5) <;> rfl
theorem en_21 : Enters Tryz.prog 21 := enters_of (fn := Tryz.f21) (by kernel_rfl) (by kernel_rfl) (by kernel_rfl)
theorem en_F21 : Enters Tryz.prog 21 := en_21
theorem tl_F21 (N : Nat) : TabL Tryz.prog T (C_F21 N) := (.cons (fs_F51 N) en_F51 .nil)
theorem nl_F21 (N : Nat) : NatL (C_F21 N) := (.cons (na_F51 N) .nil)
theorem ct_F21 (N : Nat) : NatTab (E_F21 N).C := tab_nat (l := C_F21 N) (nl_F21 N)
theorem eo_F21 (N : Nat) : EnvOk (E_F21 N) := ⟨tyOk Tryz.prog, tab_sound (l := C_F21 N) (tl_F21 N), flatOk, keysOk⟩
theorem ll_L21_5 : loopsOf cb_L21_5 = [] := by kernel_rfl
theorem fi_L21_5 (N : Nat) : FineL (E_F21 N) N [] := .nil
theorem cc_L21_5 (N : Nat) : CutsOk (E_F21 N) N cb_L21_5 := cuts_of (fun _ => rfl) cb_L21_5 (by rw [ll_L21_5]; exact fi_L21_5 N)
theorem cg_L21_5 (g51 : TF51) (N : Nat) : (firstReg cb_L21_5).bind (E_F21_ g51 N).cutL = some (LS_L21_5 g51 N N) := by kernel_rfl
theorem ce_L21_5 (N : Nat) : (firstReg cb_L21_5).bind (E_F21 N).cutL = some (LS_L21_5 (@F51 N) N N) := cg_L21_5 (@F51 N) N
theorem lf_L21_5 (N : Nat) : LoopFine (E_F21 N) N cb_L21_5 := fine_of (LS_L21_5 (@F51 N) N) (ce_L21_5 N) (ct_F21 N) (cc_L21_5 N) (z_L21_5 (@F51 N) N) (s_L21_5 (@F51 N) N)
theorem ll_F21 : loopsOf code_21 = [cb_L21_5] := by kernel_rfl
theorem fi_F21 (N : Nat) : FineL (E_F21 N) N [cb_L21_5] := (.cons (lf_L21_5 N) .nil)
theorem cc_F21 (N : Nat) : CutsOk (E_F21 N) N code_21 := cuts_of (fun _ => rfl) code_21 (by rw [ll_F21]; exact fi_F21 N)
theorem v_F21 (args : List (IV A)) : (∀ (N : Nat) (R : Type) (k : IV A → List (IV A) → Option R), S_F21 N args k = none) ∨ ∃ (a1 : List (G_Contact)) (a2 : Int) (a3 : Int) (a4 : Int), args = [.d (.sl 58 a1), .agg [.d (.int .i64 a2), .d (.int .i64 a3)], .d (.int .i64 a4)] := by
  by_cases h : ∃ (a1 : List (G_Contact)) (a2 : Int) (a3 : Int) (a4 : Int), args = [.d (.sl 58 a1), .agg [.d (.int .i64 a2), .d (.int .i64 a3)], .d (.int .i64 a4)]
  · exact .inr h
  · refine .inl (fun N R k => ?_)
    unfold S_F21 SS_F21
    split
    · exact absurd ⟨_, _, _, _, rfl⟩ h
    · rfl
theorem sm_F21 (N : Nat) : Same (S_F21 N) (abody (E_F21 N) Tryz.f21 code_21 8 [] [.arr 31] N) := by
  intro args
  rcases v_F21 args with h | ⟨a1, a2, a3, a4, rfl⟩
  · exact .inl (h N)
  · exact .inr (fun R k => (t_F21 N a1 a2 a3 a4 R k).symm)
theorem fu_21 : Tryz.prog.funcs[21]? = some Tryz.f21 := by kernel_rfl
theorem bo_21 : Tryz.f21.body = some code_21 := by kernel_rfl
theorem fs_F21 (N : Nat) : FnSound Tryz.prog T 21 (S_F21 N) := fs_of (E_F21 N) rfl rfl (eo_F21 N) (ct_F21 N) mixed fu_21 bo_21 8 [] [.arr 31] N (cc_F21 N) (sm_F21 N)
theorem na_F21 (N : Nat) : NatSpec (S_F21 N) := na_of (E_F21 N) (ct_F21 N) Tryz.f21 code_21 8 [] [.arr 31] N (cc_F21 N) (sm_F21 N)
def L22_6 : Nat → Nat → List (G_Contact) → Int → Int → Int → Int → List (Int) → {R : Type} → (List (Int) → Option R) → Option R
  | _, 0, _, _, _, _, _, _, _, _ => none
  | N, n + 1, v4, v5, v6, v7, v8, v9, _, e0 => (bif (decide (v6 < v5)) then (bif (decide (0 ≤ v6)) then (match v4[(v6 : Int).toNat]? with | some x13 => (bif (decide (v7 ≤ x13.f_At)) then (bif (decide (x13.f_At < v8)) then (bif (decide (0 ≤ (IntKind.i64.wrap (Int.tdiv (IntKind.i64.wrap (x13.f_At - v7)) 3600000))) && decide ((IntKind.i64.wrap (Int.tdiv (IntKind.i64.wrap (x13.f_At - v7)) 3600000)) < (v9.length : Int))) then (match v9[((IntKind.i64.wrap (Int.tdiv (IntKind.i64.wrap (x13.f_At - v7)) 3600000)) : Int).toNat]? with | some x14 => (bif (decide (0 ≤ (IntKind.i64.wrap (Int.tdiv (IntKind.i64.wrap (x13.f_At - v7)) 3600000))) && decide ((IntKind.i64.wrap (Int.tdiv (IntKind.i64.wrap (x13.f_At - v7)) 3600000)) < (v9.length : Int))) then (match v9[((IntKind.i64.wrap (Int.tdiv (IntKind.i64.wrap (x13.f_At - v7)) 3600000)) : Int).toNat]? with | some x15 => L22_6 N n v4 v5 ((IntKind.i64.wrap (v6 + 1))) v7 v8 ((v9.set ((IntKind.i64.wrap (Int.tdiv (IntKind.i64.wrap (x13.f_At - v7)) 3600000)) : Int).toNat (IntKind.i64.wrap (x14 + 1)))) e0 | none => none) else none) | none => none) else none) else L22_6 N n v4 v5 ((IntKind.i64.wrap (v6 + 1))) v7 v8 v9 e0) else L22_6 N n v4 v5 ((IntKind.i64.wrap (v6 + 1))) v7 v8 v9 e0) | none => none) else none) else e0 v9)
abbrev TF22 : Type 1 := List (G_Contact) → Int → Int → {R : Type} → (List (Int) → Int → Option R) → Option R
def F22_ (N : Nat) (a1 : List (G_Contact)) (a2 : Int) (a3 : Int) {R : Type} (k0 : List (Int) → Int → Option R) : Option R :=
  (bif (decide ((IntKind.i64.wrap (Int.tdiv (IntKind.i64.wrap ((IntKind.i64.wrap ((IntKind.i64.wrap (a3 - a2)) + 3600000)) - 1)) 3600000)) > 1000)) then k0 [] 2 else (bif (decide (0 ≤ (IntKind.i64.wrap (Int.tdiv (IntKind.i64.wrap ((IntKind.i64.wrap ((IntKind.i64.wrap (a3 - a2)) + 3600000)) - 1)) 3600000))) && (decide ((IntKind.i64.wrap (Int.tdiv (IntKind.i64.wrap ((IntKind.i64.wrap ((IntKind.i64.wrap (a3 - a2)) + 3600000)) - 1)) 3600000)) ≤ (IntKind.i64.wrap (Int.tdiv (IntKind.i64.wrap ((IntKind.i64.wrap ((IntKind.i64.wrap (a3 - a2)) + 3600000)) - 1)) 3600000))) && decide ((IntKind.i64.wrap (Int.tdiv (IntKind.i64.wrap ((IntKind.i64.wrap ((IntKind.i64.wrap (a3 - a2)) + 3600000)) - 1)) 3600000)) * (8 : Nat) ≤ 140737488355328))) then (L22_6 N N a1 (a1.length : Int) 0 a2 a3 ((List.replicate ((IntKind.i64.wrap (Int.tdiv (IntKind.i64.wrap ((IntKind.i64.wrap ((IntKind.i64.wrap (a3 - a2)) + 3600000)) - 1)) 3600000)) : Int).toNat 0)) (fun e16 => k0 e16 0)) else none))
def F22 (N : Nat) : TF22 := @F22_ N
def p_F22 (args : List (IV A)) : Bool := match args with | [.d (.sl 58 _), .agg [.d (.int .i64 _), .d (.int .i64 _)]] => true | _ => false
def SS_F22 (g : TF22) : Spec A := fun args _ k => match args with | [.d (.sl 58 a1), .agg [.d (.int .i64 a2), .d (.int .i64 a3)]] => g a1 a2 a3 (fun z0 z1 => k (.tup [.arr 3 z0, .d (.int .i64 z1)]) [.undef, .undef]) | _ => none
def S_F22 (N : Nat) : Spec A := SS_F22 (F22 N)
def sh_L22_6 : SSt := { fr := sparse .undef 53 [(3, .ptr 0 0), (7, .own 3 1), (22, .sl 58), (23, .int .i64), (24, .int .i64)], st := sparse .none 3 [(0, .box [.int .i64, .int .i64]), (1, .row 3)] }
def LP_L22_6 (N n : Nat) (ps : List (Pv A)) {R : Type} (K : Ex → St A → Option R) : Option R := match ps with | [.d (.sl 58 p0), .d (.int .i64 p1), .d (.int .i64 p2), .d (.int .i64 p3), .d (.int .i64 p4), .d (.sl 3 p5)] => L22_6 N n p0 p1 p2 p3 p4 p5 (fun z0 => K (.exit 0) { fr := sparse .undef 53 [(7, .own 3 1)], st := sparse none 3 [(1, some (.row 3 z0))] }) | _ => none
def LS_L22_6 (N n : Nat) : Piece A := fun S _ K => match decSt sh_L22_6 S with | some ps => LP_L22_6 N n ps K | none => none
noncomputable def code_22 : Code := (Tryz.f22.body).getD .skip
def C_F22_ : List (Nat × Spec A) := []
def C_F22 (N : Nat) : List (Nat × Spec A) := C_F22_
noncomputable def E_F22_ (N : Nat) : Env A := { P := Tryz.prog, T := T, C := fun f => (C_F22_).lookup f, tg := fun d => ([(3, [0]), (9, [2]), (21, [1])].lookup d).getD [], seqH := fun _ => none, loopH := fun i => [(6, ({ keep := [3, 7, 22, 23, 24], canon := [], stay := [0, 1] } : Hint))].lookup i, exitH := fun i => [(6, ({ keep := [7], canon := [], stay := [1] } : Hint))].lookup i, cutL := fun i => [(6, LS_L22_6 N N)].lookup i, mode := fun f i => [].contains (f, i), keyed := keyT, flat := flatT, pin := [] }
noncomputable def E_F22 (N : Nat) : Env A := E_F22_ N
theorem tg_F22 (N : Nat) (a1 : List (G_Contact)) (a2 : Int) (a3 : Int) (R : Type) (k : IV A → List (IV A) → Option R) : abody (E_F22_ N) Tryz.f22 code_22 3 [] [.arr 3, .asis] N [.d (.sl 58 a1), .agg [.d (.int .i64 a2), .d (.int .i64 a3)]] k = SS_F22 (@F22_ N) [.d (.sl 58 a1), .agg [.d (.int .i64 a2), .d (.int .i64 a3)]] k := by kernel_rfl
theorem t_F22 (N : Nat) (a1 : List (G_Contact)) (a2 : Int) (a3 : Int) (R : Type) (k : IV A → List (IV A) → Option R) : abody (E_F22 N) Tryz.f22 code_22 3 [] [.arr 3, .asis] N [.d (.sl 58 a1), .agg [.d (.int .i64 a2), .d (.int .i64 a3)]] k = S_F22 N [.d (.sl 58 a1), .agg [.d (.int .i64 a2), .d (.int .i64 a3)]] k := tg_F22 N a1 a2 a3 R k
noncomputable def cb_L22_6 : Code := sub [1, 1, 1, 1, 0, 1, 0, 0] code_22
noncomputable def bd_L22_6 (N : Nat) : Piece A := around (fun S _ K => aexec (E_F22_ N) N cb_L22_6 S K) ((firstReg cb_L22_6).bind (E_F22_ N).loopH) ((firstReg cb_L22_6).bind (E_F22_ N).exitH)
theorem b_L22_6 (N n : Nat) (p0 : List (G_Contact)) (p1 : Int) (p2 : Int) (p3 : Int) (p4 : Int) (p5 : List (Int)) (R : Type) (K : Ex → St A → Option R) : bd_L22_6 N { fr := sparse .undef 53 [(3, .ptr 0 0), (7, .own 3 1), (22, .d (.sl 58 p0)), (23, .d (.int .i64 p1)), (24, .d (.int .i64 p2))], st := sparse none 3 [(0, some (.box [.d (.int .i64 p3), .d (.int .i64 p4)])), (1, some (.row 3 p5))] } (fun e S' => match e with | .normal => LS_L22_6 N n S' K | e => K e S') = LP_L22_6 N (n + 1) [.d (.sl 58 p0), .d (.int .i64 p1), .d (.int .i64 p2), .d (.int .i64 p3), .d (.int .i64 p4), .d (.sl 3 p5)] K := by kernel_rfl
theorem m_L22_6 (ps : List (Pv A)) : (∀ (N n : Nat) (R : Type) (K : Ex → St A → Option R), LP_L22_6 N n ps K = none) ∨ ∃ (p0 : List (G_Contact)) (p1 : Int) (p2 : Int) (p3 : Int) (p4 : Int) (p5 : List (Int)), ps = [.d (.sl 58 p0), .d (.int .i64 p1), .d (.int .i64 p2), .d (.int .i64 p3), .d (.int .i64 p4), .d (.sl 3 p5)] := by
  by_cases h : ∃ (p0 : List (G_Contact)) (p1 : Int) (p2 : Int) (p3 : Int) (p4 : Int) (p5 : List (Int)), ps = [.d (.sl 58 p0), .d (.int .i64 p1), .d (.int .i64 p2), .d (.int .i64 p3), .d (.int .i64 p4), .d (.sl 3 p5)]
  · exact .inr h
  · refine .inl (fun N n R K => ?_)
    unfold LP_L22_6
    split
    · exact absurd ⟨_, _, _, _, _, _, rfl⟩ h
    · rfl
theorem s_L22_6 (N n : Nat) (S : St A) : (∀ (R : Type) (K : Ex → St A → Option R), LS_L22_6 N (n + 1) S K = none) ∨ ∀ (R : Type) (K : Ex → St A → Option R), LS_L22_6 N (n + 1) S K = bd_L22_6 N S (fun e S' => match e with | .normal => LS_L22_6 N n S' K | e => K e S') := by
  cases hd : decSt sh_L22_6 S with
  | none => exact .inl (fun R K => by unfold LS_L22_6; rw [hd])
  | some ps =>
    have he := decSt_enc hd
    rcases m_L22_6 ps with h | ⟨p0, p1, p2, p3, p4, p5, rfl⟩
    · exact .inl (fun R K => by unfold LS_L22_6; rw [hd]; exact h N (n + 1) R K)
    · have hS : encSt (A := A) sh_L22_6 [.d (.sl 58 p0), .d (.int .i64 p1), .d (.int .i64 p2), .d (.int .i64 p3), .d (.int .i64 p4), .d (.sl 3 p5)] = some { fr := sparse .undef 53 [(3, .ptr 0 0), (7, .own 3 1), (22, .d (.sl 58 p0)), (23, .d (.int .i64 p1)), (24, .d (.int .i64 p2))], st := sparse none 3 [(0, some (.box [.d (.int .i64 p3), .d (.int .i64 p4)])), (1, some (.row 3 p5))] } := by kernel_rfl
      rw [hS] at he
      obtain rfl := Option.some.inj he
      refine .inr (fun R K => ?_)
      rw [b_L22_6]
      unfold LS_L22_6
      rw [hd]
theorem z_L22_6 (N : Nat) (R : Type) (S : St A) (K : Ex → St A → Option R) : LS_L22_6 N 0 S K = none := by
  unfold LS_L22_6
  cases decSt sh_L22_6 S with
  | none => rfl
  | some ps =>
    simp only
    unfold LP_L22_6
    split <;> (try unfold L22_6) <;> rfl
theorem en_22 : Enters Tryz.prog 22 := enters_of (fn := Tryz.f22) (by kernel_rfl) (by kernel_rfl) (by kernel_rfl)
theorem en_F22 : Enters Tryz.prog 22 := en_22
theorem tl_F22 (N : Nat) : TabL Tryz.prog T (C_F22 N) := .nil
theorem nl_F22 (N : Nat) : NatL (C_F22 N) := .nil
theorem ct_F22 (N : Nat) : NatTab (E_F22 N).C := tab_nat (l := C_F22 N) (nl_F22 N)
theorem eo_F22 (N : Nat) : EnvOk (E_F22 N) := ⟨tyOk Tryz.prog, tab_sound (l := C_F22 N) (tl_F22 N), flatOk, keysOk⟩
theorem ll_L22_6 : loopsOf cb_L22_6 = [] := by kernel_rfl
theorem fi_L22_6 (N : Nat) : FineL (E_F22 N) N [] := .nil
theorem cc_L22_6 (N : Nat) : CutsOk (E_F22 N) N cb_L22_6 := cuts_of (fun _ => rfl) cb_L22_6 (by rw [ll_L22_6]; exact fi_L22_6 N)
theorem cg_L22_6 (N : Nat) : (firstReg cb_L22_6).bind (E_F22_ N).cutL = some (LS_L22_6 N N) := by kernel_rfl
theorem ce_L22_6 (N : Nat) : (firstReg cb_L22_6).bind (E_F22 N).cutL = some (LS_L22_6 N N) := cg_L22_6 N
theorem lf_L22_6 (N : Nat) : LoopFine (E_F22 N) N cb_L22_6 := fine_of (LS_L22_6 N) (ce_L22_6 N) (ct_F22 N) (cc_L22_6 N) (z_L22_6 N) (s_L22_6 N)
theorem ll_F22 : loopsOf code_22 = [cb_L22_6] := by kernel_rfl
theorem fi_F22 (N : Nat) : FineL (E_F22 N) N [cb_L22_6] := (.cons (lf_L22_6 N) .nil)
theorem cc_F22 (N : Nat) : CutsOk (E_F22 N) N code_22 := cuts_of (fun _ => rfl) code_22 (by rw [ll_F22]; exact fi_F22 N)
theorem v_F22 (args : List (IV A)) : (∀ (N : Nat) (R : Type) (k : IV A → List (IV A) → Option R), S_F22 N args k = none) ∨ ∃ (a1 : List (G_Contact)) (a2 : Int) (a3 : Int), args = [.d (.sl 58 a1), .agg [.d (.int .i64 a2), .d (.int .i64 a3)]] := by
  by_cases h : ∃ (a1 : List (G_Contact)) (a2 : Int) (a3 : Int), args = [.d (.sl 58 a1), .agg [.d (.int .i64 a2), .d (.int .i64 a3)]]
  · exact .inr h
  · refine .inl (fun N R k => ?_)
    unfold S_F22 SS_F22
    split
    · exact absurd ⟨_, _, _, rfl⟩ h
    · rfl
theorem sm_F22 (N : Nat) : Same (S_F22 N) (abody (E_F22 N) Tryz.f22 code_22 3 [] [.arr 3, .asis] N) := by
  intro args
  rcases v_F22 args with h | ⟨a1, a2, a3, rfl⟩
  · exact .inl (h N)
  · exact .inr (fun R k => (t_F22 N a1 a2 a3 R k).symm)
theorem fu_22 : Tryz.prog.funcs[22]? = some Tryz.f22 := by kernel_rfl
theorem bo_22 : Tryz.f22.body = some code_22 := by kernel_rfl
theorem fs_F22 (N : Nat) : FnSound Tryz.prog T 22 (S_F22 N) := fs_of (E_F22 N) rfl rfl (eo_F22 N) (ct_F22 N) mixed fu_22 bo_22 3 [] [.arr 3, .asis] N (cc_F22 N) (sm_F22 N)
theorem na_F22 (N : Nat) : NatSpec (S_F22 N) := na_of (E_F22 N) (ct_F22 N) Tryz.f22 code_22 3 [] [.arr 3, .asis] N (cc_F22 N) (sm_F22 N)
def L23_4 : Nat → Nat → List (G_Row) → List (G_Row) → Int → Int → {R : Type} → (Bool → Option R) → (Option R) → Option R
  | _, 0, _, _, _, _, _, _, _ => none
  | N, n + 1, v3, v4, v5, v6, _, e0, e1 => (bif (decide (v6 < v5)) then (bif (decide (0 ≤ v6)) then (match v3[(v6 : Int).toNat]? with | some x9 => (bif (decide (0 ≤ v6)) then (match v4[(v6 : Int).toNat]? with | some x10 => (bif (!((x9.f_From == x10.f_From) && ((x9.f_To == x10.f_To) && true))) then e0 false else L23_4 N n v3 v4 v5 ((IntKind.i64.wrap (v6 + 1))) e0 e1) | none => none) else none) | none => none) else none) else e1)
abbrev TF23 : Type 1 := List (G_Row) → List (G_Row) → {R : Type} → (Bool → Option R) → Option R
def F23_ (N : Nat) (a1 : List (G_Row)) (a2 : List (G_Row)) {R : Type} (k0 : Bool → Option R) : Option R :=
  (bif ((a1.length : Int) != (a2.length : Int)) then k0 false else (L23_4 N N a1 a2 (a1.length : Int) 0 (fun e11 => k0 e11) (k0 true)))
def F23 (N : Nat) : TF23 := @F23_ N
def p_F23 (args : List (IV A)) : Bool := match args with | [.d (.sl 54 _), .d (.sl 54 _)] => true | _ => false
def SS_F23 (g : TF23) : Spec A := fun args _ k => match args with | [.d (.sl 54 a1), .d (.sl 54 a2)] => g a1 a2 (fun z0 => k (.d (.bool z0)) [.undef, .undef]) | _ => none
def S_F23 (N : Nat) : Spec A := SS_F23 (F23 N)
def sh_L23_4 : SSt := { fr := sparse .undef 26 [(0, .sl 54), (1, .sl 54), (12, .int .i64), (13, .int .i64)], st := sparse .none 0 [] }
def LP_L23_4 (N n : Nat) (ps : List (Pv A)) {R : Type} (K : Ex → St A → Option R) : Option R := match ps with | [.d (.sl 54 p0), .d (.sl 54 p1), .d (.int .i64 p2), .d (.int .i64 p3)] => L23_4 N n p0 p1 p2 p3 (fun z0 => K .ret { fr := sparse .undef 26 [(4, .d (.bool z0))], st := sparse none 0 [] }) (K (.exit 0) { fr := sparse .undef 26 [], st := sparse none 0 [] }) | _ => none
def LS_L23_4 (N n : Nat) : Piece A := fun S _ K => match decSt sh_L23_4 S with | some ps => LP_L23_4 N n ps K | none => none
noncomputable def code_23 : Code := (Tryz.f23.body).getD .skip
def C_F23_ : List (Nat × Spec A) := []
def C_F23 (N : Nat) : List (Nat × Spec A) := C_F23_
noncomputable def E_F23_ (N : Nat) : Env A := { P := Tryz.prog, T := T, C := fun f => (C_F23_).lookup f, tg := fun d => ([].lookup d).getD [], seqH := fun _ => none, loopH := fun i => [(4, ({ keep := [0, 1, 12, 13], canon := [], stay := [] } : Hint))].lookup i, exitH := fun i => [(4, ({ keep := [4], canon := [], stay := [] } : Hint))].lookup i, cutL := fun i => [(4, LS_L23_4 N N)].lookup i, mode := fun f i => [].contains (f, i), keyed := keyT, flat := flatT, pin := [] }
noncomputable def E_F23 (N : Nat) : Env A := E_F23_ N
theorem tg_F23 (N : Nat) (a1 : List (G_Row)) (a2 : List (G_Row)) (R : Type) (k : IV A → List (IV A) → Option R) : abody (E_F23_ N) Tryz.f23 code_23 0 [] [.asis] N [.d (.sl 54 a1), .d (.sl 54 a2)] k = SS_F23 (@F23_ N) [.d (.sl 54 a1), .d (.sl 54 a2)] k := by kernel_rfl
theorem t_F23 (N : Nat) (a1 : List (G_Row)) (a2 : List (G_Row)) (R : Type) (k : IV A → List (IV A) → Option R) : abody (E_F23 N) Tryz.f23 code_23 0 [] [.asis] N [.d (.sl 54 a1), .d (.sl 54 a2)] k = S_F23 N [.d (.sl 54 a1), .d (.sl 54 a2)] k := tg_F23 N a1 a2 R k
noncomputable def cb_L23_4 : Code := sub [1, 1, 0, 1, 0, 0] code_23
noncomputable def bd_L23_4 (N : Nat) : Piece A := around (fun S _ K => aexec (E_F23_ N) N cb_L23_4 S K) ((firstReg cb_L23_4).bind (E_F23_ N).loopH) ((firstReg cb_L23_4).bind (E_F23_ N).exitH)
theorem b_L23_4 (N n : Nat) (p0 : List (G_Row)) (p1 : List (G_Row)) (p2 : Int) (p3 : Int) (R : Type) (K : Ex → St A → Option R) : bd_L23_4 N { fr := sparse .undef 26 [(0, .d (.sl 54 p0)), (1, .d (.sl 54 p1)), (12, .d (.int .i64 p2)), (13, .d (.int .i64 p3))], st := sparse none 0 [] } (fun e S' => match e with | .normal => LS_L23_4 N n S' K | e => K e S') = LP_L23_4 N (n + 1) [.d (.sl 54 p0), .d (.sl 54 p1), .d (.int .i64 p2), .d (.int .i64 p3)] K := by kernel_rfl
theorem m_L23_4 (ps : List (Pv A)) : (∀ (N n : Nat) (R : Type) (K : Ex → St A → Option R), LP_L23_4 N n ps K = none) ∨ ∃ (p0 : List (G_Row)) (p1 : List (G_Row)) (p2 : Int) (p3 : Int), ps = [.d (.sl 54 p0), .d (.sl 54 p1), .d (.int .i64 p2), .d (.int .i64 p3)] := by
  by_cases h : ∃ (p0 : List (G_Row)) (p1 : List (G_Row)) (p2 : Int) (p3 : Int), ps = [.d (.sl 54 p0), .d (.sl 54 p1), .d (.int .i64 p2), .d (.int .i64 p3)]
  · exact .inr h
  · refine .inl (fun N n R K => ?_)
    unfold LP_L23_4
    split
    · exact absurd ⟨_, _, _, _, rfl⟩ h
    · rfl
theorem s_L23_4 (N n : Nat) (S : St A) : (∀ (R : Type) (K : Ex → St A → Option R), LS_L23_4 N (n + 1) S K = none) ∨ ∀ (R : Type) (K : Ex → St A → Option R), LS_L23_4 N (n + 1) S K = bd_L23_4 N S (fun e S' => match e with | .normal => LS_L23_4 N n S' K | e => K e S') := by
  cases hd : decSt sh_L23_4 S with
  | none => exact .inl (fun R K => by unfold LS_L23_4; rw [hd])
  | some ps =>
    have he := decSt_enc hd
    rcases m_L23_4 ps with h | ⟨p0, p1, p2, p3, rfl⟩
    · exact .inl (fun R K => by unfold LS_L23_4; rw [hd]; exact h N (n + 1) R K)
    · have hS : encSt (A := A) sh_L23_4 [.d (.sl 54 p0), .d (.sl 54 p1), .d (.int .i64 p2), .d (.int .i64 p3)] = some { fr := sparse .undef 26 [(0, .d (.sl 54 p0)), (1, .d (.sl 54 p1)), (12, .d (.int .i64 p2)), (13, .d (.int .i64 p3))], st := sparse none 0 [] } := by kernel_rfl
      rw [hS] at he
      obtain rfl := Option.some.inj he
      refine .inr (fun R K => ?_)
      rw [b_L23_4]
      unfold LS_L23_4
      rw [hd]
theorem z_L23_4 (N : Nat) (R : Type) (S : St A) (K : Ex → St A → Option R) : LS_L23_4 N 0 S K = none := by
  unfold LS_L23_4
  cases decSt sh_L23_4 S with
  | none => rfl
  | some ps =>
    simp only
    unfold LP_L23_4
    split <;> (try unfold L23_4) <;> rfl
theorem en_23 : Enters Tryz.prog 23 := enters_of (fn := Tryz.f23) (by kernel_rfl) (by kernel_rfl) (by kernel_rfl)
theorem en_F23 : Enters Tryz.prog 23 := en_23
theorem tl_F23 (N : Nat) : TabL Tryz.prog T (C_F23 N) := .nil
theorem nl_F23 (N : Nat) : NatL (C_F23 N) := .nil
theorem ct_F23 (N : Nat) : NatTab (E_F23 N).C := tab_nat (l := C_F23 N) (nl_F23 N)
theorem eo_F23 (N : Nat) : EnvOk (E_F23 N) := ⟨tyOk Tryz.prog, tab_sound (l := C_F23 N) (tl_F23 N), flatOk, keysOk⟩
theorem ll_L23_4 : loopsOf cb_L23_4 = [] := by kernel_rfl
theorem fi_L23_4 (N : Nat) : FineL (E_F23 N) N [] := .nil
theorem cc_L23_4 (N : Nat) : CutsOk (E_F23 N) N cb_L23_4 := cuts_of (fun _ => rfl) cb_L23_4 (by rw [ll_L23_4]; exact fi_L23_4 N)
theorem cg_L23_4 (N : Nat) : (firstReg cb_L23_4).bind (E_F23_ N).cutL = some (LS_L23_4 N N) := by kernel_rfl
theorem ce_L23_4 (N : Nat) : (firstReg cb_L23_4).bind (E_F23 N).cutL = some (LS_L23_4 N N) := cg_L23_4 N
theorem lf_L23_4 (N : Nat) : LoopFine (E_F23 N) N cb_L23_4 := fine_of (LS_L23_4 N) (ce_L23_4 N) (ct_F23 N) (cc_L23_4 N) (z_L23_4 N) (s_L23_4 N)
theorem ll_F23 : loopsOf code_23 = [cb_L23_4] := by kernel_rfl
theorem fi_F23 (N : Nat) : FineL (E_F23 N) N [cb_L23_4] := (.cons (lf_L23_4 N) .nil)
theorem cc_F23 (N : Nat) : CutsOk (E_F23 N) N code_23 := cuts_of (fun _ => rfl) code_23 (by rw [ll_F23]; exact fi_F23 N)
theorem v_F23 (args : List (IV A)) : (∀ (N : Nat) (R : Type) (k : IV A → List (IV A) → Option R), S_F23 N args k = none) ∨ ∃ (a1 : List (G_Row)) (a2 : List (G_Row)), args = [.d (.sl 54 a1), .d (.sl 54 a2)] := by
  by_cases h : ∃ (a1 : List (G_Row)) (a2 : List (G_Row)), args = [.d (.sl 54 a1), .d (.sl 54 a2)]
  · exact .inr h
  · refine .inl (fun N R k => ?_)
    unfold S_F23 SS_F23
    split
    · exact absurd ⟨_, _, rfl⟩ h
    · rfl
theorem sm_F23 (N : Nat) : Same (S_F23 N) (abody (E_F23 N) Tryz.f23 code_23 0 [] [.asis] N) := by
  intro args
  rcases v_F23 args with h | ⟨a1, a2, rfl⟩
  · exact .inl (h N)
  · exact .inr (fun R k => (t_F23 N a1 a2 R k).symm)
theorem fu_23 : Tryz.prog.funcs[23]? = some Tryz.f23 := by kernel_rfl
theorem bo_23 : Tryz.f23.body = some code_23 := by kernel_rfl
theorem fs_F23 (N : Nat) : FnSound Tryz.prog T 23 (S_F23 N) := fs_of (E_F23 N) rfl rfl (eo_F23 N) (ct_F23 N) mixed fu_23 bo_23 0 [] [.asis] N (cc_F23 N) (sm_F23 N)
theorem na_F23 (N : Nat) : NatSpec (S_F23 N) := na_of (E_F23 N) (ct_F23 N) Tryz.f23 code_23 0 [] [.asis] N (cc_F23 N) (sm_F23 N)
end Go.Am
