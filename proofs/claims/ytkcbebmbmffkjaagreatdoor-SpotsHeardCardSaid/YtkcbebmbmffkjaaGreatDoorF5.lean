/- The functions of the program as Lean functions, each shown to be what the code computes, part 5. No condition: lemmas for the claim. -/
import Derived.Test.YtkcbebmbmffkjaaGreatDoorF0
import Derived.Test.YtkcbebmbmffkjaaGreatDoorFSh
import Derived.Test.YtkcbebmbmffkjaaGreatDoorF2
import Derived.Test.YtkcbebmbmffkjaaGreatDoorF4
set_option linter.unusedVariables false
set_option maxRecDepth 100000
namespace Go.Am
open Go Go.Proofs
abbrev T_z13z : Type 1 := List G_Band → {R : Type} → (Int → Option R) → Option R
structure C_z13z where
 N : Nat
 z62z : T_z62z
 kit_IsKey : T_kit_IsKey
 z33z : T_z33z
def z13z_L4 (g : C_z13z) : Nat → List G_Band → List G_Band → Int → Int → {R : Type} → (List G_Band → Int → Option R) → (List G_Band → Option R) → Option R
 | 0, _, _, _, _, _, _, _ => none
 | n + 1, v2, v3, v4, v5, _, e0, e1 => (bif (decide (v5 < v4)) then (get_ v3 v5 fun x11 => (g.kit_IsKey x11.f_Key (fun r12 => (bif (!r12) then e0 v2 5 else (g.z62z x11.f_Low 0 30000000000 (fun r13 => (bif r13 then e0 v2 1 else (g.z62z x11.f_High 0 30000000000 (fun r14 => (bif r14 then e0 v2 1 else (bif ((Int.tmod x11.f_Low 1000) != 0) then e0 v2 1 else (bif ((Int.tmod x11.f_High 1000) != 0) then e0 v2 1 else (bif (decide (x11.f_High ≤ x11.f_Low)) then e0 v2 1 else (bif (decide (v5 > 0)) then (get_ v2 (w64 (v5 - 1)) fun x15 => (bif (decide (x11.f_Low < x15.f_High)) then e0 v2 7 else z13z_L4 g n v2 v3 v4 (w64 (v5 + 1)) e0 e1)) else z13z_L4 g n v2 v3 v4 (w64 (v5 + 1)) e0 e1)))))))))))))) else e1 v2)
def z13z_L14 (g : C_z13z) : Nat → List G_Band → List G_Band → Int → Int → {R : Type} → (Int → Option R) → Option R → Option R
 | 0, _, _, _, _, _, _, _ => none
 | n + 1, v19, v20, v21, v22, _, e0, e1 => (bif (decide (v22 < v21)) then (get_ v20 v22 fun x26 => (bif (decide (0 ≤ v22) && decide (v22 ≤ (v19.length : Int))) then (g.z33z (v19.take (v22 : Int).toNat) x26 (fun r27 r28 => (bif r27 then e0 6 else z13z_L14 g n v19 v20 v21 (w64 (v22 + 1)) e0 e1))) else none)) else e1)
def z13z_ (g : C_z13z) (a1 : List G_Band) {R : Type} (k0 : Int → Option R) : Option R :=
 (bif (decide ((a1.length : Int) > 30)) then k0 2 else (z13z_L4 g g.N a1 a1 (a1.length : Int) 0 (fun e16 e17 => k0 e17) (fun e18 => (z13z_L14 g g.N e18 e18 (e18.length : Int) 0 (fun e29 => k0 e29) (k0 0)))))
noncomputable def I_z13z [Fuel] : C_z13z := ⟨NN, @z62z _, @kit_IsKey _, @z33z _⟩
noncomputable def z13z [Fuel] : T_z13z := @z13z_ I_z13z
def SS_z13z (g : T_z13z) : Spec A := fun args => match args with | [.d (.sl 69 a1)] => fun k => g a1 (fun z0 => k (.d (.int .i64 z0)) [.undef]) | _ => fun _ => none
def sh_z13z_L4 : SSt := mkSh 78 2 [(0, .sl 69), (10, .sl 69), (11, .int .i64), (12, .int .i64)] []
def LP_z13z_L4 (g : C_z13z) (n : Nat) : LPT A := fun ps => match ps with | [.d (.sl 69 p1), .d (.sl 69 p2), .d (.int .i64 p3), .d (.int .i64 p4)] => fun K => z13z_L4 g n p1 p2 p3 p4 (fun z0 z1 => K .ret (mkSt 78 2 [(0, .d (.sl 69 z0)), (2, .d (.int .i64 z1))] [])) (fun z0 => K (.exit 0) (mkSt 78 2 [(0, .d (.sl 69 z0))] [])) | _ => fun _ => none
def sh_z13z_L14 : SSt := mkSh 78 2 [(0, .sl 69), (65, .sl 69), (66, .int .i64), (67, .int .i64)] []
def LP_z13z_L14 (g : C_z13z) (n : Nat) : LPT A := fun ps => match ps with | [.d (.sl 69 p1), .d (.sl 69 p2), .d (.int .i64 p3), .d (.int .i64 p4)] => fun K => z13z_L14 g n p1 p2 p3 p4 (fun z0 => K .ret (mkSt 78 2 [(2, .d (.int .i64 z0))] [])) (K (.exit 3) (mkSt 78 2 [] [])) | _ => fun _ => none
noncomputable def code_94 : Code := (Tryz.f94.body).getD .skip
noncomputable def E_z13z (g : C_z13z) : Env A := mkE [(86, SS_z62z g.z62z), (115, SS_kit_IsKey g.kit_IsKey), (134, SS_z33z g.z33z)] [(4, [0]), (6, [1])] [(4, ⟨[0, 10, 11, 12], [], [], [], [], [], []⟩), (14, ⟨[0, 65, 66, 67], [], [], [], [], [], []⟩)] [(4, ⟨[0, 2], [], [], [], [], [], []⟩), (14, ⟨[2], [], [], [], [], [], []⟩)] [(4, pieceOf sh_z13z_L4 (LP_z13z_L4 g g.N)), (14, pieceOf sh_z13z_L14 (LP_z13z_L14 g g.N))] [] [] [] [] []
theorem ct_z13z [Fuel] : NatTab (E_z13z I_z13z).C := ct_of (P := Tryz.prog) (T := T) (.cons ok_z62z (.cons ok_kit_IsKey (.cons ok_z33z .nil))) (by kernel_rfl)
noncomputable def cb_z13z_L4 : Code := sub [1, 1, 0, 1, 0, 0] code_94
theorem s_z13z_L4 (g : C_z13z) (n : Nat) : StepOk (E_z13z g) g.N cb_z13z_L4 sh_z13z_L4 (LP_z13z_L4 g) n := by intro ps; unfold LP_z13z_L4; split; exact .inr fun R K => (by kernel_rfl); exact .inl fun R K => rfl
theorem lf_z13z_L4 [Fuel] : LoopFine (E_z13z I_z13z) NN cb_z13z_L4 := fine_loop sh_z13z_L4 (LP_z13z_L4 I_z13z) (by kernel_rfl) ct_z13z (cuts0 (fun _ => rfl) (by kernel_rfl)) (fun ps R K => by unfold LP_z13z_L4; split <;> (try unfold z13z_L4) <;> rfl) (s_z13z_L4 I_z13z)
noncomputable def cb_z13z_L14 : Code := sub [1, 1, 1, 0, 1, 0, 0] code_94
theorem s_z13z_L14 (g : C_z13z) (n : Nat) : StepOk (E_z13z g) g.N cb_z13z_L14 sh_z13z_L14 (LP_z13z_L14 g) n := by intro ps; unfold LP_z13z_L14; split; exact .inr fun R K => (by kernel_rfl); exact .inl fun R K => rfl
theorem lf_z13z_L14 [Fuel] : LoopFine (E_z13z I_z13z) NN cb_z13z_L14 := fine_loop sh_z13z_L14 (LP_z13z_L14 I_z13z) (by kernel_rfl) ct_z13z (cuts0 (fun _ => rfl) (by kernel_rfl)) (fun ps R K => by unfold LP_z13z_L14; split <;> (try unfold z13z_L14) <;> rfl) (s_z13z_L14 I_z13z)
theorem sm_z13z (g : C_z13z) : Same (SS_z13z (@z13z_ g)) (abody (E_z13z g) Tryz.f94 code_94 2 [] [.asis] g.N) := by intro args; unfold SS_z13z; split; exact .inr fun R k => (by kernel_rfl); exact .inl fun R k => rfl
theorem ok_z13z [Fuel] : Ok 94 (SS_z13z (@z13z _)) := okF_of std (.cons ok_z62z (.cons ok_kit_IsKey (.cons ok_z33z .nil))) ⟨rfl, rfl, by kernel_rfl, rfl, rfl, rfl⟩ (sm_z13z I_z13z) (cutsL (fun _ => rfl) (.cons lf_z13z_L4 (.cons lf_z13z_L14 .nil)) (by kernel_rfl)) Tryz.func94 (by kernel_rfl) (by kernel_rfl)
abbrev T_z70z : Type 1 := List G_Band → List G_Spot → {R : Type} → (Int → Option R) → Option R
structure C_z70z where
 N : Nat
 z31z : T_z31z
 z13z : T_z13z
def z70z_ (g : C_z70z) (a1 : List G_Band) (a2 : List G_Spot) {R : Type} (k0 : Int → Option R) : Option R :=
 (g.z13z a1 (fun r3 => (bif (r3 != 0) then k0 r3 else (g.z31z a2 (fun r4 => k0 r4)))))
noncomputable def I_z70z [Fuel] : C_z70z := ⟨NN, @z31z _, @z13z _⟩
noncomputable def z70z [Fuel] : T_z70z := @z70z_ I_z70z
def SS_z70z (g : T_z70z) : Spec A := fun args => match args with | [.d (.sl 69 a1), .d (.sl 52 a2)] => fun k => g a1 a2 (fun z0 => k (.d (.int .i64 z0)) [.undef, .undef]) | _ => fun _ => none
noncomputable def code_47 : Code := (Tryz.f47.body).getD .skip
noncomputable def E_z70z (g : C_z70z) : Env A := mkE [(31, SS_z31z g.z31z), (94, SS_z13z g.z13z)] [] [] [] [] [] [] [] [] []
theorem sm_z70z (g : C_z70z) : Same (SS_z70z (@z70z_ g)) (abody (E_z70z g) Tryz.f47 code_47 0 [] [.asis] g.N) := by intro args; unfold SS_z70z; split; exact .inr fun R k => (by kernel_rfl); exact .inl fun R k => rfl
theorem ok_z70z [Fuel] : Ok 47 (SS_z70z (@z70z _)) := okF_of std (.cons ok_z31z (.cons ok_z13z .nil)) ⟨rfl, rfl, by kernel_rfl, rfl, rfl, rfl⟩ (sm_z70z I_z70z) (cuts0 (fun _ => rfl) (by kernel_rfl)) Tryz.func47 (by kernel_rfl) (by kernel_rfl)
abbrev T_z69z : Type 1 := Int → Int → Int → {R : Type} → (Int → Option R) → Option R
structure C_z69z where
 N : Nat
 z73z : T_z73z
 z62z : T_z62z
def z69z_ (g : C_z69z) (a1 a2 a3 : Int) {R : Type} (k0 : Int → Option R) : Option R :=
 (g.z62z a1 1 86400000 (fun r4 => (bif r4 then k0 1 else (g.z73z a2 (fun r5 => (bif (!r5) then k0 1 else (g.z62z a3 0 30000000000 (fun r6 => (bif r6 then k0 1 else k0 0)))))))))
noncomputable def I_z69z [Fuel] : C_z69z := ⟨NN, @z73z _, @z62z _⟩
noncomputable def z69z [Fuel] : T_z69z := @z69z_ I_z69z
def SS_z69z (g : T_z69z) : Spec A := fun args => match args with | [.d (.int .i64 a1), .d (.int .i64 a2), .d (.int .i64 a3)] => fun k => g a1 a2 a3 (fun z0 => k (.d (.int .i64 z0)) [.undef, .undef, .undef]) | _ => fun _ => none
noncomputable def code_50 : Code := (Tryz.f50.body).getD .skip
noncomputable def E_z69z (g : C_z69z) : Env A := mkE [(85, SS_z73z g.z73z), (86, SS_z62z g.z62z)] [] [] [] [] [] [] [] [] []
theorem sm_z69z (g : C_z69z) : Same (SS_z69z (@z69z_ g)) (abody (E_z69z g) Tryz.f50 code_50 0 [] [.asis] g.N) := by intro args; unfold SS_z69z; split; exact .inr fun R k => (by kernel_rfl); exact .inl fun R k => rfl
theorem ok_z69z [Fuel] : Ok 50 (SS_z69z (@z69z _)) := okF_of std (.cons ok_z73z (.cons ok_z62z .nil)) ⟨rfl, rfl, by kernel_rfl, rfl, rfl, rfl⟩ (sm_z69z I_z69z) (cuts0 (fun _ => rfl) (by kernel_rfl)) Tryz.func50 (by kernel_rfl) (by kernel_rfl)
abbrev T_z80z : Type 1 := List G_Spot → {R : Type} → (List G_Spot → Option R) → Option R
def z80z_ (g : Nat) (a1 : List G_Spot) {R : Type} (k0 : List G_Spot → Option R) : Option R :=
 k0 a1
noncomputable def z80z [Fuel] : T_z80z := @z80z_ NN
def SS_z80z (g : T_z80z) : Spec A := fun args => match args with | [.d (.sl 52 a1)] => fun k => g a1 (fun z0 => k (.fn 141 [.box [.d (.sl 52 z0)]]) [.undef]) | _ => fun _ => none
noncomputable def code_98 : Code := (Tryz.f98.body).getD .skip
noncomputable def E_z80z (g : Nat) : Env A := mkE [] [(1, [0])] [] [] [] [] [] [] [] []
theorem sm_z80z (g : Nat) : Same (SS_z80z (@z80z_ g)) (abody (E_z80z g) Tryz.f98 code_98 1 [] [.asis] g) := by intro args; unfold SS_z80z; split; exact .inr fun R k => (by kernel_rfl); exact .inl fun R k => rfl
theorem ok_z80z [Fuel] : Ok 98 (SS_z80z (@z80z _)) := okF_of std .nil ⟨rfl, rfl, by kernel_rfl, rfl, rfl, rfl⟩ (sm_z80z NN) (cuts0 (fun _ => rfl) (by kernel_rfl)) Tryz.func98 (by kernel_rfl) (by kernel_rfl)
abbrev T_log_At_1 : Type 1 := G_Band → Int → {R : Type} → (Bool → Int → Option R) → Option R
def log_At_1_ (g : Nat) (a1 : G_Band) (a2 : Int) {R : Type} (k0 : Bool → Int → Option R) : Option R :=
 (bif (decide (a1.f_Low ≤ a2)) then k0 (decide (a2 < a1.f_High)) a2 else k0 false a2)
noncomputable def log_At_1 [Fuel] : T_log_At_1 := @log_At_1_ NN
def SS_log_At_1 (g : T_log_At_1) : Spec A := fun args => match args with | [.agg [.d (.str a1), .d (.int .i64 a2), .d (.int .i64 a3)], .box [.d (.int .i64 a4)]] => fun k => g ⟨a1, a2, a3⟩ a4 (fun z0 z1 => k (.d (.bool z0)) [.undef, .box [.d (.int .i64 z1)]]) | _ => fun _ => none
noncomputable def code_142 : Code := (Tryz.f142.body).getD .skip
noncomputable def E_log_At_1 (g : Nat) : Env A := mkE [] [(2, [1])] [] [] [] [] [] [] [] [1]
theorem sm_log_At_1 (g : Nat) : Same (SS_log_At_1 (@log_At_1_ g)) (abody (E_log_At_1 g) Tryz.f142 code_142 2 [0] [.asis] g) := by intro args; unfold SS_log_At_1; split; exact .inr fun R k => (by kernel_rfl); exact .inl fun R k => rfl
theorem ok_log_At_1 [Fuel] : Ok 142 (SS_log_At_1 (@log_At_1 _)) := okF_of std .nil ⟨rfl, rfl, by kernel_rfl, rfl, rfl, rfl⟩ (sm_log_At_1 NN) (cuts0 (fun _ => rfl) (by kernel_rfl)) Tryz.func142 (by kernel_rfl) (by kernel_rfl)
abbrev T_z19z : Type 1 := List G_Band → Int → {R : Type} → (Int → Int → Option R) → Option R
structure C_z19z where
 N : Nat
 log_At_1 : T_log_At_1
def z19z_L2 (g : C_z19z) : Nat → List G_Band → Int → Int → Int → {R : Type} → (Int → Int → Option R) → (Int → Option R) → Option R
 | 0, _, _, _, _, _, _, _ => none
 | n + 1, v3, v4, v5, v6, _, e0, e1 => (bif (decide (v5 < v4)) then (get_ v3 v5 fun x10 => (g.log_At_1 x10 v6 (fun r11 r12 => (bif r11 then e0 v5 r12 else z19z_L2 g n v3 v4 (w64 (v5 + 1)) r12 e0 e1)))) else e1 v6)
def z19z_ (g : C_z19z) (a1 : List G_Band) (a2 : Int) {R : Type} (k0 : Int → Int → Option R) : Option R :=
 (z19z_L2 g g.N a1 (a1.length : Int) 0 a2 (fun e13 e14 => k0 e13 e14) (fun e15 => k0 (-1) e15))
noncomputable def I_z19z [Fuel] : C_z19z := ⟨NN, @log_At_1 _⟩
noncomputable def z19z [Fuel] : T_z19z := @z19z_ I_z19z
def SS_z19z (g : T_z19z) : Spec A := fun args => match args with | [.d (.sl 69 a1), .fn 142 [.box [.d (.int .i64 a2)]]] => fun k => g a1 a2 (fun z0 z1 => k (.d (.int .i64 z0)) [.undef, .fn 142 [.box [.d (.int .i64 z1)]]]) | _ => fun _ => none
def sh_z19z_L2 : SSt := mkSh 19 1 [(0, .sl 69), (1, .fn 142 [.ptr 0 0]), (7, .int .i64), (8, .int .i64)] [(0, .box [.int .i64])]
def LP_z19z_L2 (g : C_z19z) (n : Nat) : LPT A := fun ps => match ps with | [.d (.sl 69 p1), .d (.int .i64 p2), .d (.int .i64 p3), .d (.int .i64 p4)] => fun K => z19z_L2 g n p1 p2 p3 p4 (fun z0 z1 => K .ret (mkSt 19 1 [(1, .fn 142 [.ptr 0 0]), (4, .d (.int .i64 z0))] [(0, some (.box [.d (.int .i64 z1)]))])) (fun z0 => K (.exit 0) (mkSt 19 1 [(1, .fn 142 [.ptr 0 0])] [(0, some (.box [.d (.int .i64 z0)]))])) | _ => fun _ => none
noncomputable def E_z19z (g : C_z19z) : Env A := mkE [(142, SS_log_At_1 g.log_At_1)] [] [(2, ⟨[0, 1, 7, 8], [], [0], [], [], [], []⟩)] [(2, ⟨[1, 4], [], [0], [], [], [], []⟩)] [(2, pieceOf sh_z19z_L2 (LP_z19z_L2 g g.N))] [] [] [] [] [1]
theorem ct_z19z [Fuel] : NatTab (E_z19z I_z19z).C := ct_of (P := Tryz.prog) (T := T) (.cons ok_log_At_1 .nil) (by kernel_rfl)
noncomputable def cb_z19z_L2 : Code := sub [1, 0, 1, 0, 0] code_107
theorem s_z19z_L2 (g : C_z19z) (n : Nat) : StepOk (E_z19z g) g.N cb_z19z_L2 sh_z19z_L2 (LP_z19z_L2 g) n := by intro ps; unfold LP_z19z_L2; split; exact .inr fun R K => (by kernel_rfl); exact .inl fun R K => rfl
theorem lf_z19z_L2 [Fuel] : LoopFine (E_z19z I_z19z) NN cb_z19z_L2 := fine_loop sh_z19z_L2 (LP_z19z_L2 I_z19z) (by kernel_rfl) ct_z19z (cuts0 (fun _ => rfl) (by kernel_rfl)) (fun ps R K => by unfold LP_z19z_L2; split <;> (try unfold z19z_L2) <;> rfl) (s_z19z_L2 I_z19z)
theorem sm_z19z (g : C_z19z) : Same (SS_z19z (@z19z_ g)) (abody (E_z19z g) Tryz.f107 code_107 1 [0] [.asis] g.N) := by intro args; unfold SS_z19z; split; exact .inr fun R k => (by kernel_rfl); exact .inl fun R k => rfl
theorem ok_z19z [Fuel] : Ok 107 (SS_z19z (@z19z _)) := okF_of std (.cons ok_log_At_1 .nil) ⟨rfl, rfl, by kernel_rfl, rfl, rfl, rfl⟩ (sm_z19z I_z19z) (cutsL (fun _ => rfl) (.cons lf_z19z_L2 .nil) (by kernel_rfl)) Tryz.func107 (by kernel_rfl) (by kernel_rfl)
abbrev T_log_At : Type 1 := List G_Band → Int → {R : Type} → (Int → Option R) → Option R
structure C_log_At where
 N : Nat
 z19z : T_z19z
def log_At_ (g : C_log_At) (a1 : List G_Band) (a2 : Int) {R : Type} (k0 : Int → Option R) : Option R :=
 (g.z19z a1 a2 (fun r3 r4 => k0 r3))
noncomputable def I_log_At [Fuel] : C_log_At := ⟨NN, @z19z _⟩
noncomputable def log_At [Fuel] : T_log_At := @log_At_ I_log_At
def SS_log_At (g : T_log_At) : Spec A := fun args => match args with | [.d (.sl 69 a1), .d (.int .i64 a2)] => fun k => g a1 a2 (fun z0 => k (.d (.int .i64 z0)) [.undef, .undef]) | _ => fun _ => none
noncomputable def code_99 : Code := (Tryz.f99.body).getD .skip
noncomputable def E_log_At (g : C_log_At) : Env A := mkE [(107, SS_z19z g.z19z)] [(3, [0])] [] [] [] [] [] [] [(107, 0)] []
theorem sm_log_At (g : C_log_At) : Same (SS_log_At (@log_At_ g)) (abody (E_log_At g) Tryz.f99 code_99 1 [] [.asis] g.N) := by intro args; unfold SS_log_At; split; exact .inr fun R k => (by kernel_rfl); exact .inl fun R k => rfl
theorem ok_log_At [Fuel] : Ok 99 (SS_log_At (@log_At _)) := okF_of std (.cons ok_z19z .nil) ⟨rfl, rfl, by kernel_rfl, rfl, rfl, rfl⟩ (sm_log_At I_log_At) (cuts0 (fun _ => rfl) (by kernel_rfl)) Tryz.func99 (by kernel_rfl) (by kernel_rfl)
abbrev T_z52z : Type 1 := List G_Spot → {R : Type} → (List G_Spot → Option R) → Option R
def z52z_L1 (g : Nat) : Nat → Int → Int → List G_Spot → {R : Type} → (List G_Spot → Option R) → Option R
 | 0, _, _, _, _, _ => none
 | n + 1, v2, v3, v4, _, e0 => (bif (decide (v2 < v3)) then (inr v4 v3 (at_ v4 v3 fun x9 => (inr v4 v2 (at_ v4 v2 fun x10 => (inr v4 v2 (at_ v4 v2 fun x11 => (inr (set_ v4 v2 x9) v3 (at_ (set_ v4 v2 x9) v3 fun x12 => z52z_L1 g n (w64 (v2 + 1)) (w64 (v3 - 1)) (set_ (set_ v4 v2 x9) v3 x10) e0)))))))) else e0 v4)
def z52z_ (g : Nat) (a1 : List G_Spot) {R : Type} (k0 : List G_Spot → Option R) : Option R :=
 (z52z_L1 g g 0 (w64 ((a1.length : Int) - 1)) a1 (fun e13 => k0 e13))
noncomputable def z52z [Fuel] : T_z52z := @z52z_ NN
def SS_z52z (g : T_z52z) : Spec A := fun args => match args with | [.arr 52 a1] => fun k => g a1 (fun z0 => k (.tup []) [.arr 52 z0]) | _ => fun _ => none
def sh_z52z_L1 : SSt := mkSh 28 1 [(0, .own 52 0), (2, .int .i64), (3, .int .i64)] [(0, .row 52)]
def LP_z52z_L1 (g : Nat) (n : Nat) : LPT A := fun ps => match ps with | [.d (.int .i64 p1), .d (.int .i64 p2), .d (.sl 52 p3)] => fun K => z52z_L1 g n p1 p2 p3 (fun z0 => K (.exit 0) (mkSt 28 1 [(0, .own 52 0)] [(0, some (.row 52 z0))])) | _ => fun _ => none
noncomputable def code_100 : Code := (Tryz.f100.body).getD .skip
noncomputable def E_z52z (g : Nat) : Env A := mkE [] [] [(1, ⟨[0, 2, 3], [], [0], [], [], [], []⟩)] [(1, ⟨[0], [], [0], [], [], [], []⟩)] [(1, pieceOf sh_z52z_L1 (LP_z52z_L1 g g))] [] [] [] [] [0]
theorem ct_z52z [Fuel] : NatTab (E_z52z NN).C := ct_of (P := Tryz.prog) (T := T) .nil (by kernel_rfl)
noncomputable def cb_z52z_L1 : Code := sub [1, 0, 0] code_100
theorem s_z52z_L1 (g : Nat) (n : Nat) : StepOk (E_z52z g) g cb_z52z_L1 sh_z52z_L1 (LP_z52z_L1 g) n := by intro ps; unfold LP_z52z_L1; split; exact .inr fun R K => (by kernel_rfl); exact .inl fun R K => rfl
theorem lf_z52z_L1 [Fuel] : LoopFine (E_z52z NN) NN cb_z52z_L1 := fine_loop sh_z52z_L1 (LP_z52z_L1 NN) (by kernel_rfl) ct_z52z (cuts0 (fun _ => rfl) (by kernel_rfl)) (fun ps R K => by unfold LP_z52z_L1; split <;> (try unfold z52z_L1) <;> rfl) (s_z52z_L1 NN)
theorem sm_z52z (g : Nat) : Same (SS_z52z (@z52z_ g)) (abody (E_z52z g) Tryz.f100 code_100 1 [0] [] g) := by intro args; unfold SS_z52z; split; exact .inr fun R k => (by kernel_rfl); exact .inl fun R k => rfl
theorem ok_z52z [Fuel] : Ok 100 (SS_z52z (@z52z _)) := okF_of std .nil ⟨rfl, rfl, by kernel_rfl, rfl, rfl, rfl⟩ (sm_z52z NN) (cutsL (fun _ => rfl) (.cons lf_z52z_L1 .nil) (by kernel_rfl)) Tryz.func100 (by kernel_rfl) (by kernel_rfl)
abbrev T_z55z : Type 1 := List Int → {R : Type} → (List Int → Option R) → Option R
def z55z_L1 (g : Nat) : Nat → Int → Int → List Int → {R : Type} → (List Int → Option R) → Option R
 | 0, _, _, _, _, _ => none
 | n + 1, v2, v3, v4, _, e0 => (bif (decide (v2 < v3)) then (inr v4 v3 (at_ v4 v3 fun x9 => (inr v4 v2 (at_ v4 v2 fun x10 => (inr v4 v2 (at_ v4 v2 fun x11 => (inr (set_ v4 v2 x9) v3 (at_ (set_ v4 v2 x9) v3 fun x12 => z55z_L1 g n (w64 (v2 + 1)) (w64 (v3 - 1)) (set_ (set_ v4 v2 x9) v3 x10) e0)))))))) else e0 v4)
def z55z_ (g : Nat) (a1 : List Int) {R : Type} (k0 : List Int → Option R) : Option R :=
 (z55z_L1 g g 0 (w64 ((a1.length : Int) - 1)) a1 (fun e13 => k0 e13))
noncomputable def z55z [Fuel] : T_z55z := @z55z_ NN
def SS_z55z (g : T_z55z) : Spec A := fun args => match args with | [.arr 3 a1] => fun k => g a1 (fun z0 => k (.tup []) [.arr 3 z0]) | _ => fun _ => none
def sh_z55z_L1 : SSt := mkSh 28 1 [(0, .own 3 0), (2, .int .i64), (3, .int .i64)] [(0, .row 3)]
def LP_z55z_L1 (g : Nat) (n : Nat) : LPT A := fun ps => match ps with | [.d (.int .i64 p1), .d (.int .i64 p2), .d (.sl 3 p3)] => fun K => z55z_L1 g n p1 p2 p3 (fun z0 => K (.exit 0) (mkSt 28 1 [(0, .own 3 0)] [(0, some (.row 3 z0))])) | _ => fun _ => none
noncomputable def code_101 : Code := (Tryz.f101.body).getD .skip
noncomputable def E_z55z (g : Nat) : Env A := mkE [] [] [(1, ⟨[0, 2, 3], [], [0], [], [], [], []⟩)] [(1, ⟨[0], [], [0], [], [], [], []⟩)] [(1, pieceOf sh_z55z_L1 (LP_z55z_L1 g g))] [] [] [] [] [0]
theorem ct_z55z [Fuel] : NatTab (E_z55z NN).C := ct_of (P := Tryz.prog) (T := T) .nil (by kernel_rfl)
noncomputable def cb_z55z_L1 : Code := sub [1, 0, 0] code_101
theorem s_z55z_L1 (g : Nat) (n : Nat) : StepOk (E_z55z g) g cb_z55z_L1 sh_z55z_L1 (LP_z55z_L1 g) n := by intro ps; unfold LP_z55z_L1; split; exact .inr fun R K => (by kernel_rfl); exact .inl fun R K => rfl
theorem lf_z55z_L1 [Fuel] : LoopFine (E_z55z NN) NN cb_z55z_L1 := fine_loop sh_z55z_L1 (LP_z55z_L1 NN) (by kernel_rfl) ct_z55z (cuts0 (fun _ => rfl) (by kernel_rfl)) (fun ps R K => by unfold LP_z55z_L1; split <;> (try unfold z55z_L1) <;> rfl) (s_z55z_L1 NN)
theorem sm_z55z (g : Nat) : Same (SS_z55z (@z55z_ g)) (abody (E_z55z g) Tryz.f101 code_101 1 [0] [] g) := by intro args; unfold SS_z55z; split; exact .inr fun R k => (by kernel_rfl); exact .inl fun R k => rfl
theorem ok_z55z [Fuel] : Ok 101 (SS_z55z (@z55z _)) := okF_of std .nil ⟨rfl, rfl, by kernel_rfl, rfl, rfl, rfl⟩ (sm_z55z NN) (cutsL (fun _ => rfl) (.cons lf_z55z_L1 .nil) (by kernel_rfl)) Tryz.func101 (by kernel_rfl) (by kernel_rfl)
abbrev T_band_heard : Type 1 := List G_Band → List G_Spot → Int → Int → {R : Type} → (List G_Spot → List Int → Option R) → Option R
structure C_band_heard where
 N : Nat
 z80z : T_z80z
 log_At : T_log_At
 z52z : T_z52z
 z55z : T_z55z
def band_heard_L4 (g : C_band_heard) : Nat → List G_Spot → List G_Band → Int → Int → List (G_band_onBand × Bool) → List G_Spot → List Int → {R : Type} → (List G_Band → Int → Int → List (G_band_onBand × Bool) → List G_Spot → List Int → Option R) → Option R
 | 0, y0, y1, y2, y3, y4, y5, y6, _, e0 => e0 y1 y2 y3 y4 y5 y6
 | n + 1, l12, v6, v7, v8, v9, v10, v11, _, e0 => (match l12[n]? with | none => none | some x13 => (g.log_At v6 x13.f_Hertz (fun r14 => (bif (decide (x13.f_At ≤ (w64 (v8 - v7)))) then band_heard_L4 g n l12 v6 v7 v8 v9 v10 v11 e0 else (bif (decide (x13.f_At > v8)) then band_heard_L4 g n l12 v6 v7 v8 v9 v10 v11 e0 else (bif (decide (r14 < 0)) then band_heard_L4 g n l12 v6 v7 v8 v9 v10 v11 e0 else (bif ((mget_band_onBand_bool (⟨x13.f_Call, r14⟩ : G_band_onBand) v9).getD false) then band_heard_L4 g n l12 v6 v7 v8 v9 v10 v11 e0 else (bif (decide ((v10.length + [x13].length) * 48 ≤ roomBytes')) then (bif (decide ((v11.length + [r14].length) * 8 ≤ roomBytes')) then band_heard_L4 g n l12 v6 v7 v8 (mset_band_onBand_bool (⟨x13.f_Call, r14⟩ : G_band_onBand) true v9) (v10 ++ [x13]) (v11 ++ [r14]) e0 else none) else none))))))))
noncomputable def raw_band_heard (g : C_band_heard) (a1 : List G_Band) (a2 : List G_Spot) (a3 a4 : Int) {R : Type} (k0 : List G_Spot → List Int → Option R) : Option R :=
 (g.z80z a2 (fun r5 => (bif decide (r5.length < 4611686018427387904) then (band_heard_L4 g r5.length r5 a1 a3 a4 [] [] [] (fun e15 e16 e17 e18 e19 e20 => (g.z52z e19 (fun r21 => (g.z55z e20 (fun r22 => k0 r21 r22)))))) else none)))
def dec0_band_heard (p : IV A × List (IV A)) : Option ((List G_Spot) × (List Int)) := match p with | (.tup [.arr 52 b1, .arr 3 b2], [.undef, .undef, .undef, .undef]) => some (b1, b2) | _ => none
def inj0_band_heard (q : (List G_Spot) × (List Int)) : IV A × List (IV A) := (.tup [.arr 52 q.1, .arr 3 q.2], [.undef, .undef, .undef, .undef])
theorem hi0_band_heard (p : IV A × List (IV A)) (q : (List G_Spot) × (List Int)) (h : dec0_band_heard p = some q) : p = inj0_band_heard q := by unfold dec0_band_heard at h; split at h; (cases h; rfl); cases h
noncomputable def band_heard_ (g : C_band_heard) (a1 : List G_Band) (a2 : List G_Spot) (a3 a4 : Int) {R : Type} (k0 : List G_Spot → List Int → Option R) : Option R :=
 (raw_band_heard g a1 a2 a3 a4 (fun z0 z1 => some (inj0_band_heard (z0, z1)))).bind fun p => (decK dec0_band_heard p (fun q => k0 q.1 q.2) none)
noncomputable def I_band_heard [Fuel] : C_band_heard := ⟨NN, @z80z _, @log_At _, @z52z _, @z55z _⟩
noncomputable def band_heard [Fuel] : T_band_heard := @band_heard_ I_band_heard
def SS_band_heard (g : T_band_heard) : Spec A := fun args => match args with | [.d (.sl 69 a1), .d (.sl 52 a2), .d (.int .i64 a3), .d (.int .i64 a4)] => fun k => g a1 a2 a3 a4 (fun z0 z1 => k (.tup [.arr 52 z0, .arr 3 z1]) [.undef, .undef, .undef, .undef]) | _ => fun _ => none
def sh_band_heard_L4 : SSt := mkSh 65 16 [(4, .ptr 0 0), (6, .ptr 1 0), (7, .ptr 2 0), (8, .ptr 3 0), (9, .ptr 4 0), (10, .ptr 6 0)] [(0, .box [.sl 69]), (1, .box [.int .i64]), (2, .box [.int .i64]), (3, .box [.own 52 8]), (4, .box [.own 3 9]), (5, .mp 135 4), (6, .box [.mp 5]), (8, .row 52), (9, .row 3)]
abbrev bw_band_heard_L4 : Bw := ⟨141, 28, 52, 3, 4⟩
def LP_band_heard_L4 (g : C_band_heard) (n : Nat) (l : List (A (bw_band_heard_L4).tE)) : LPT A := fun ps => match ps with | [.d (.sl 69 p1), .d (.int .i64 p2), .d (.int .i64 p3), .mp 135 4 p4, .d (.sl 52 p5), .d (.sl 3 p6)] => fun K => band_heard_L4 g n l p1 p2 p3 p4 p5 p6 (fun z0 z1 z2 z3 z4 z5 => K .normal (mkSt 65 16 [(4, .ptr 0 0), (6, .ptr 1 0), (7, .ptr 2 0), (8, .ptr 3 0), (9, .ptr 4 0), (10, .ptr 6 0)] [(0, some (.box [.d (.sl 69 z0)])), (1, some (.box [.d (.int .i64 z1)])), (2, some (.box [.d (.int .i64 z2)])), (3, some (.box [.own 52 8])), (4, some (.box [.own 3 9])), (5, some (.mp 135 4 z3)), (6, some (.box [.mp 5])), (8, some (.row 52 z4)), (9, some (.row 3 z5))])) | _ => fun _ => none
noncomputable def code_52 : Code := (Tryz.f52.body).getD .skip
noncomputable def E_band_heard (g : C_band_heard) : Env A := mkE [(98, SS_z80z g.z80z), (99, SS_log_At g.log_At), (100, SS_z52z g.z52z), (101, SS_z55z g.z55z)] [(4, [0]), (6, [1]), (7, [2]), (8, [3]), (9, [4]), (10, [6]), (12, [10]), (13, [11]), (14, [5]), (16, [7]), (52, [12]), (53, [14]), (57, [13]), (58, [15])] [(4, ⟨[4, 6, 7, 8, 9, 10], [], [0, 1, 2, 3, 4, 5, 6], [(3, 0, 52, 8), (4, 0, 3, 9)], [], [], []⟩)] [(4, ⟨[4, 6, 7, 8, 9, 10], [], [0, 1, 2, 3, 4, 5, 6], [], [], [], []⟩)] [] [] [] [] [(100, 0), (101, 0)] []
noncomputable def CB_band_heard (g : C_band_heard) : Nat → Option (Nat → PieceB A (bw_band_heard_L4).tE) := fun i => List.lookup i [(0, pieceB (bw_band_heard_L4).tE sh_band_heard_L4 (LP_band_heard_L4 g))]
def kp_band_heard : Nat → List Nat := fun i => (List.lookup i [(0, [4, 6, 7, 8, 9, 10])]).getD []
theorem ct_band_heard [Fuel] : NatTab (E_band_heard I_band_heard).C := ct_of (P := Tryz.prog) (T := T) (.cons ok_z80z (.cons ok_log_At (.cons ok_z52z (.cons ok_z55z .nil)))) (by kernel_rfl)
noncomputable def bwp_band_heard_L4 : BwP := (bwP Tryz.f141.body).get (by kernel_rfl)
theorem bwf_band_heard_L4 : BwFine Tryz.prog T bw_band_heard_L4 := ⟨bwOk_of (fn := Tryz.f141) Tryz.func141 bwp_band_heard_L4 (by kernel_rfl) (by kernel_rfl) (by kernel_rfl) (by kernel_rfl) (by kernel_rfl) (by kernel_rfl) (by kernel_rfl) (by kernel_rfl) (by kernel_rfl), enters_of (fn := Tryz.f141) Tryz.func141 (by kernel_rfl) (by kernel_rfl), by kernel_rfl, by kernel_rfl, fun x => by kernel_rfl⟩
noncomputable def rp_band_heard_L4 : RfP := (rfOf (sub [1, 1, 0] code_52)).get (by kernel_rfl)
theorem z_band_heard_L4 (g : C_band_heard) : BZeroOk (bw_band_heard_L4).tE sh_band_heard_L4 (LP_band_heard_L4 g) := by intro xs ps; unfold LP_band_heard_L4; split; exact .inr fun R K => (by kernel_rfl); exact .inl fun R K => rfl
theorem s_band_heard_L4 (g : C_band_heard) (i : Nat) : BStepOk (E_band_heard g) g.N (kp_band_heard (rp_band_heard_L4).B) rp_band_heard_L4 (bw_band_heard_L4).tE sh_band_heard_L4 (LP_band_heard_L4 g) i := by intro xs ps; unfold LP_band_heard_L4; split; exact .inr fun R K => (by kernel_rfl); exact .inl fun R K => rfl
theorem lf_band_heard_L4 [Fuel] : BOk (E_band_heard I_band_heard) bw_band_heard_L4 (CB_band_heard I_band_heard) kp_band_heard NN rp_band_heard_L4 := fine_back sh_band_heard_L4 (LP_band_heard_L4 I_band_heard) (by kernel_rfl) (cuts0 (fun _ => rfl) (by kernel_rfl)) (cuts0 (fun _ => rfl) (by kernel_rfl)) (z_band_heard_L4 I_band_heard) (s_band_heard_L4 I_band_heard)
theorem sm_band_heard (g : C_band_heard) : Same (SS_band_heard (@raw_band_heard g)) (abodyB (E_band_heard g) bw_band_heard_L4 (CB_band_heard g) kp_band_heard Tryz.f52 code_52 16 [] [.arr 52, .arr 3] g.N) := by intro args; unfold SS_band_heard; split; exact .inr fun R k => (by kernel_rfl); exact .inl fun R k => rfl
theorem wh_band_heard (g : C_band_heard) : Whole (SS_band_heard (@band_heard_ g)) (SS_band_heard (@raw_band_heard g)) := by
 intro args R k res h
 unfold SS_band_heard at h
 split at h
 ·obtain ⟨p, hp, h⟩ := Option.bind_eq_some_iff.1 h
  exact ⟨p, hp, (decK_hc (inj := inj0_band_heard) hi0_band_heard (fun h => (by cases h)) h)⟩
 ·cases h
theorem nx_band_heard (g : C_band_heard) : NatSpec (SS_band_heard (@band_heard_ g)) := by
 intro args R k
 unfold SS_band_heard
 split
 ·unfold band_heard_
  rw [Option.bind_assoc]
  exact congrArg (Option.bind _) (funext fun p => (decK_na (inj := inj0_band_heard) rfl))
 ·rfl
theorem ok_band_heard [Fuel] : Ok 52 (SS_band_heard (@band_heard _)) := okB_of std (.cons ok_z80z (.cons ok_log_At (.cons ok_z52z (.cons ok_z55z .nil)))) ⟨rfl, rfl, by kernel_rfl, rfl, rfl, rfl⟩ bwf_band_heard_L4 (sm_band_heard I_band_heard) (wh_band_heard I_band_heard) (nx_band_heard I_band_heard) (cutsB (fun _ => rfl) .nil (.cons lf_band_heard_L4 .nil) (by kernel_rfl) (by kernel_rfl)) Tryz.func52 (by kernel_rfl) (by kernel_rfl)
abbrev T_band_Heard : Type 1 := List G_Band → List G_Spot → Int → Int → {R : Type} → (List G_Spot → Int → Option R) → Option R
structure C_band_Heard where
 N : Nat
 z70z : T_z70z
 z69z : T_z69z
 band_heard : T_band_heard
def band_Heard_ (g : C_band_Heard) (a1 : List G_Band) (a2 : List G_Spot) (a3 a4 : Int) {R : Type} (k0 : List G_Spot → Int → Option R) : Option R :=
 (g.z70z a1 a2 (fun r5 => (bif (r5 != 0) then k0 [] r5 else (g.z69z a3 a4 0 (fun r6 => (bif (r6 != 0) then k0 [] r6 else (g.band_heard a1 a2 a3 a4 (fun r7 r8 => k0 r7 0))))))))
noncomputable def I_band_Heard [Fuel] : C_band_Heard := ⟨NN, @z70z _, @z69z _, @band_heard _⟩
noncomputable def band_Heard [Fuel] : T_band_Heard := @band_Heard_ I_band_Heard
def SS_band_Heard (g : T_band_Heard) : Spec A := fun args => match args with | [.d (.sl 69 a1), .d (.sl 52 a2), .d (.int .i64 a3), .d (.int .i64 a4)] => fun k => g a1 a2 a3 a4 (fun z0 z1 => k (.tup [.arr 52 z0, .d (.int .i64 z1)]) [.undef, .undef, .undef, .undef]) | _ => fun _ => none
noncomputable def code_26 : Code := (Tryz.f26.body).getD .skip
noncomputable def E_band_Heard (g : C_band_Heard) : Env A := mkE [(47, SS_z70z g.z70z), (50, SS_z69z g.z69z), (52, SS_band_heard g.band_heard)] [(31, [0, 1])] [] [] [] [] [] [] [] []
theorem sm_band_Heard (g : C_band_Heard) : Same (SS_band_Heard (@band_Heard_ g)) (abody (E_band_Heard g) Tryz.f26 code_26 2 [] [.arr 52, .asis] g.N) := by intro args; unfold SS_band_Heard; split; exact .inr fun R k => (by kernel_rfl); exact .inl fun R k => rfl
theorem ok_band_Heard [Fuel] : Ok 26 (SS_band_Heard (@band_Heard _)) := okF_of std (.cons ok_z70z (.cons ok_z69z (.cons ok_band_heard .nil))) ⟨rfl, rfl, by kernel_rfl, rfl, rfl, rfl⟩ (sm_band_Heard I_band_Heard) (cuts0 (fun _ => rfl) (by kernel_rfl)) Tryz.func26 (by kernel_rfl) (by kernel_rfl)
abbrev T_z83z : Type 1 := Int → Int → List Int → {R : Type} → (Int → List Int → Option R) → Option R
def z83z_ (g : Nat) (a1 a2 : Int) (a3 : List Int) {R : Type} (k0 : Int → List Int → Option R) : Option R :=
 (inr a3 a2 (at_ a3 a2 fun x4 => (inr a3 a1 (at_ a3 a1 fun x5 => k0 (w64 (x4 - x5)) a3))))
noncomputable def z83z [Fuel] : T_z83z := @z83z_ NN
def SS_z83z (g : T_z83z) : Spec A := fun args => match args with | [.d (.int .i64 a1), .d (.int .i64 a2), .box [.arr 3 a3]] => fun k => g a1 a2 a3 (fun z0 z1 => k (.d (.int .i64 z0)) [.undef, .undef, .box [.arr 3 z1]]) | _ => fun _ => none
noncomputable def code_78 : Code := (Tryz.f78.body).getD .skip
noncomputable def E_z83z (g : Nat) : Env A := mkE [] [] [] [] [] [] [] [] [] [2]
theorem sm_z83z (g : Nat) : Same (SS_z83z (@z83z_ g)) (abody (E_z83z g) Tryz.f78 code_78 2 [0, 1] [.asis] g) := by intro args; unfold SS_z83z; split; exact .inr fun R k => (by kernel_rfl); exact .inl fun R k => rfl
theorem ok_z83z [Fuel] : Ok 78 (SS_z83z (@z83z _)) := okF_of std .nil ⟨rfl, rfl, by kernel_rfl, rfl, rfl, rfl⟩ (sm_z83z NN) (cuts0 (fun _ => rfl) (by kernel_rfl)) Tryz.func78 (by kernel_rfl) (by kernel_rfl)
end Go.Am
