/- The functions of the program as Lean functions, each shown to be what the code computes, part 5. No condition: lemmas for the claim. -/
import Derived.Test.YtancmpgebeiiaaaGreatDoorF0
import Derived.Test.YtancmpgebeiiaaaGreatDoorFSh
import Derived.Test.YtancmpgebeiiaaaGreatDoorF1
import Derived.Test.YtancmpgebeiiaaaGreatDoorF3
import Derived.Test.YtancmpgebeiiaaaGreatDoorF4
set_option linter.unusedVariables false
set_option maxRecDepth 100000
namespace Go.Am
open Go Go.Proofs
abbrev T_log_Pauses : Type 1 := List G_Contact → G_Window → Int → {R : Type} → (List G_Window → Int → Option R) → Option R
structure C_log_Pauses where
 N : Nat
 log_CheckLog : T_log_CheckLog
 kit_IsWindow : T_kit_IsWindow
 kit_Outside : T_kit_Outside
 log_Pauses_1_ba3 : T_log_Pauses_1_ba3
 kit_Has : T_kit_Has
def log_Pauses_L10 (g : C_log_Pauses) : Nat → List G_Contact → Int → Int → G_Window → Int → Int → List G_Window → {R : Type} → (G_Window → Int → Int → List G_Window → Option R) → Option R
 | 0, _, _, _, _, _, _, _, _, _ => none
 | n + 1, v7, v8, v9, v10, v11, v12, v13, _, e0 => (bif (decide (v9 < v8)) then (get_ v7 v9 fun x19 => (g.kit_Has v10 x19.f_At (fun r20 => (bif r20 then (g.log_Pauses_1_ba3 x19.f_At v12 v11 v13 (fun r21 r22 r23 => log_Pauses_L10 g n v7 v8 (w64 (v9 + 1)) v10 r22 (w64 (x19.f_At + 1)) r23 e0)) else log_Pauses_L10 g n v7 v8 (w64 (v9 + 1)) v10 v11 v12 v13 e0)))) else e0 v10 v11 v12 v13)
def log_Pauses_ (g : C_log_Pauses) (a1 : List G_Contact) (a2 : G_Window) (a3 : Int) {R : Type} (k0 : List G_Window → Int → Option R) : Option R :=
 (g.log_CheckLog a1 (fun r4 => (bif (r4 != 0) then k0 [] r4 else (g.kit_IsWindow a2 (fun r5 => (bif (!r5) then k0 [] 1 else (g.kit_Outside a3 1 86400000 (fun r6 => (bif r6 then k0 [] 1 else (log_Pauses_L10 g g.N a1 (a1.length : Int) 0 a2 a3 a2.f_From [] (fun e24 e25 e26 e27 => (g.log_Pauses_1_ba3 e24.f_To e26 e25 e27 (fun r28 r29 r30 => k0 r30 0)))))))))))))
noncomputable def I_log_Pauses [Fuel] : C_log_Pauses := ⟨NN, @log_CheckLog _, @kit_IsWindow _, @kit_Outside _, @log_Pauses_1_ba3 _, @kit_Has _⟩
noncomputable def log_Pauses [Fuel] : T_log_Pauses := @log_Pauses_ I_log_Pauses
def SS_log_Pauses (g : T_log_Pauses) : Spec A := fun args => match args with | [.d (.sl 39 a1), .agg [.d (.int .i64 a2), .d (.int .i64 a3)], .d (.int .i64 a4)] => fun k => g a1 ⟨a2, a3⟩ a4 (fun z0 z1 => k (.tup [.arr 30 z0, .d (.int .i64 z1)]) [.undef, .undef, .undef]) | _ => fun _ => none
def sh_log_Pauses_L10 : SSt := mkSh 52 8 [(4, .ptr 0 0), (9, .ptr 2 0), (10, .ptr 3 0), (11, .fn 18 [.ptr 3 0, .ptr 1 0, .ptr 2 0]), (29, .sl 39), (30, .int .i64), (31, .int .i64)] [(0, .box [.int .i64, .int .i64]), (1, .box [.int .i64]), (2, .box [.own 30 4]), (3, .box [.int .i64]), (4, .row 30)]
def LP_log_Pauses_L10 (g : C_log_Pauses) (n : Nat) : LPT A := fun ps => match ps with | [.d (.sl 39 p1), .d (.int .i64 p2), .d (.int .i64 p3), .d (.int .i64 p4), .d (.int .i64 p5), .d (.int .i64 p6), .d (.int .i64 p7), .d (.sl 30 p8)] => fun K => log_Pauses_L10 g n p1 p2 p3 ⟨p4, p5⟩ p6 p7 p8 (fun z0 z1 z2 z3 => K (.exit 0) (mkSt 52 8 [(4, .ptr 0 0), (9, .ptr 2 0), (11, .fn 18 [.ptr 3 0, .ptr 1 0, .ptr 2 0])] [(0, some (.box [.d (.int .i64 z0.f_From), .d (.int .i64 z0.f_To)])), (1, some (.box [.d (.int .i64 z1)])), (2, some (.box [.own 30 4])), (3, some (.box [.d (.int .i64 z2)])), (4, some (.row 30 z3))])) | _ => fun _ => none
noncomputable def code_6 : Code := (Tryz.f6.body).getD .skip
noncomputable def E_log_Pauses (g : C_log_Pauses) : Env A := mkE [(15, SS_log_CheckLog g.log_CheckLog), (16, SS_kit_IsWindow g.kit_IsWindow), (17, SS_kit_Outside g.kit_Outside), (18, SS_log_Pauses_1_ba3 g.log_Pauses_1_ba3), (19, SS_kit_Has g.kit_Has)] [(4, [0]), (5, [1]), (9, [2]), (10, [3]), (13, [5]), (42, [6]), (50, [7])] [(10, ⟨[4, 9, 10, 11, 29, 30, 31], [], [0, 1, 2, 3], [(2, 0, 30, 4)]⟩)] [(10, ⟨[4, 9, 11], [], [0, 1, 2, 3, 4], []⟩)] [(10, pieceOf sh_log_Pauses_L10 (LP_log_Pauses_L10 g g.N))] [] [] [] [] []
theorem ct_log_Pauses [Fuel] : NatTab (E_log_Pauses I_log_Pauses).C := ct_of (P := Tryz.prog) (T := T) (.cons ok_log_CheckLog (.cons ok_kit_IsWindow (.cons ok_kit_Outside (.cons ok_log_Pauses_1_ba3 (.cons ok_kit_Has .nil))))) (by kernel_rfl)
noncomputable def cb_log_Pauses_L10 : Code := sub [1, 1, 1, 1, 1, 1, 0, 1, 0, 0] code_6
theorem s_log_Pauses_L10 (g : C_log_Pauses) (n : Nat) : StepOk (E_log_Pauses g) g.N cb_log_Pauses_L10 sh_log_Pauses_L10 (LP_log_Pauses_L10 g) n := by intro ps; unfold LP_log_Pauses_L10; split; exact .inr fun R K => (by kernel_rfl); exact .inl fun R K => rfl
theorem lf_log_Pauses_L10 [Fuel] : LoopFine (E_log_Pauses I_log_Pauses) NN cb_log_Pauses_L10 := fine_loop sh_log_Pauses_L10 (LP_log_Pauses_L10 I_log_Pauses) (by kernel_rfl) ct_log_Pauses (cuts0 (fun _ => rfl) (by kernel_rfl)) (fun ps R K => by unfold LP_log_Pauses_L10; split <;> (try unfold log_Pauses_L10) <;> rfl) (s_log_Pauses_L10 I_log_Pauses)
theorem sm_log_Pauses (g : C_log_Pauses) : Same (SS_log_Pauses (@log_Pauses_ g)) (abody (E_log_Pauses g) Tryz.f6 code_6 8 [] [.arr 30, .asis] g.N) := by intro args; unfold SS_log_Pauses; split; exact .inr fun R k => (by kernel_rfl); exact .inl fun R k => rfl
theorem ok_log_Pauses [Fuel] : Ok 6 (SS_log_Pauses (@log_Pauses _)) := okF_of std (.cons ok_log_CheckLog (.cons ok_kit_IsWindow (.cons ok_kit_Outside (.cons ok_log_Pauses_1_ba3 (.cons ok_kit_Has .nil))))) ⟨rfl, rfl, by kernel_rfl, rfl, rfl, rfl⟩ (sm_log_Pauses I_log_Pauses) (cutsL (fun _ => rfl) (.cons lf_log_Pauses_L10 .nil) (by kernel_rfl)) Tryz.func6 (by kernel_rfl) (by kernel_rfl)
abbrev T_log_Hours : Type 1 := List G_Contact → G_Window → {R : Type} → (List Int → Int → Option R) → Option R
structure C_log_Hours where
 N : Nat
 log_CheckLog : T_log_CheckLog
 kit_IsWindow : T_kit_IsWindow
 kit_Has : T_kit_Has
def log_Hours_L11 (g : C_log_Hours) : Nat → List G_Contact → Int → Int → G_Window → List Int → {R : Type} → (List Int → Option R) → Option R
 | 0, _, _, _, _, _, _, _ => none
 | n + 1, v5, v6, v7, v8, v9, _, e0 => (bif (decide (v7 < v6)) then (get_ v5 v7 fun x14 => (g.kit_Has v8 x14.f_At (fun r15 => (bif r15 then (inr v9 (w64 (Int.tdiv (w64 (x14.f_At - v8.f_From)) 3600000)) (at_ v9 (w64 (Int.tdiv (w64 (x14.f_At - v8.f_From)) 3600000)) fun x16 => (inr v9 (w64 (Int.tdiv (w64 (x14.f_At - v8.f_From)) 3600000)) (at_ v9 (w64 (Int.tdiv (w64 (x14.f_At - v8.f_From)) 3600000)) fun x17 => log_Hours_L11 g n v5 v6 (w64 (v7 + 1)) v8 (set_ v9 (w64 (Int.tdiv (w64 (x14.f_At - v8.f_From)) 3600000)) (w64 (x16 + 1))) e0)))) else log_Hours_L11 g n v5 v6 (w64 (v7 + 1)) v8 v9 e0)))) else e0 v9)
def log_Hours_ (g : C_log_Hours) (a1 : List G_Contact) (a2 : G_Window) {R : Type} (k0 : List Int → Int → Option R) : Option R :=
 (g.log_CheckLog a1 (fun r3 => (bif (r3 != 0) then k0 [] r3 else (g.kit_IsWindow a2 (fun r4 => (bif (!r4) then k0 [] 1 else (bif (decide ((w64 (Int.tdiv (w64 ((w64 ((w64 (a2.f_To - a2.f_From)) + 3600000)) - 1)) 3600000)) > 1000)) then k0 [] 2 else (bif (decide (0 ≤ (w64 (Int.tdiv (w64 ((w64 ((w64 (a2.f_To - a2.f_From)) + 3600000)) - 1)) 3600000))) && (decide ((w64 (Int.tdiv (w64 ((w64 ((w64 (a2.f_To - a2.f_From)) + 3600000)) - 1)) 3600000)) ≤ (w64 (Int.tdiv (w64 ((w64 ((w64 (a2.f_To - a2.f_From)) + 3600000)) - 1)) 3600000))) && decide ((w64 (Int.tdiv (w64 ((w64 ((w64 (a2.f_To - a2.f_From)) + 3600000)) - 1)) 3600000)) * (8 : Nat) ≤ 140737488355328))) then (log_Hours_L11 g g.N a1 (a1.length : Int) 0 a2 (List.replicate ((w64 (Int.tdiv (w64 ((w64 ((w64 (a2.f_To - a2.f_From)) + 3600000)) - 1)) 3600000)) : Int).toNat 0) (fun e18 => k0 e18 0)) else none))))))))
noncomputable def I_log_Hours [Fuel] : C_log_Hours := ⟨NN, @log_CheckLog _, @kit_IsWindow _, @kit_Has _⟩
noncomputable def log_Hours [Fuel] : T_log_Hours := @log_Hours_ I_log_Hours
def SS_log_Hours (g : T_log_Hours) : Spec A := fun args => match args with | [.d (.sl 39 a1), .agg [.d (.int .i64 a2), .d (.int .i64 a3)]] => fun k => g a1 ⟨a2, a3⟩ (fun z0 z1 => k (.tup [.arr 3 z0, .d (.int .i64 z1)]) [.undef, .undef]) | _ => fun _ => none
def sh_log_Hours_L11 : SSt := mkSh 54 3 [(3, .ptr 0 0), (8, .own 3 1), (31, .sl 39), (32, .int .i64), (33, .int .i64)] [(0, .box [.int .i64, .int .i64]), (1, .row 3)]
def LP_log_Hours_L11 (g : C_log_Hours) (n : Nat) : LPT A := fun ps => match ps with | [.d (.sl 39 p1), .d (.int .i64 p2), .d (.int .i64 p3), .d (.int .i64 p4), .d (.int .i64 p5), .d (.sl 3 p6)] => fun K => log_Hours_L11 g n p1 p2 p3 ⟨p4, p5⟩ p6 (fun z0 => K (.exit 0) (mkSt 54 3 [(8, .own 3 1)] [(1, some (.row 3 z0))])) | _ => fun _ => none
noncomputable def code_7 : Code := (Tryz.f7.body).getD .skip
noncomputable def E_log_Hours (g : C_log_Hours) : Env A := mkE [(15, SS_log_CheckLog g.log_CheckLog), (16, SS_kit_IsWindow g.kit_IsWindow), (19, SS_kit_Has g.kit_Has)] [(3, [0]), (10, [2]), (30, [1])] [(11, ⟨[3, 8, 31, 32, 33], [], [0, 1], []⟩)] [(11, ⟨[8], [], [1], []⟩)] [(11, pieceOf sh_log_Hours_L11 (LP_log_Hours_L11 g g.N))] [] [] [] [] []
theorem ct_log_Hours [Fuel] : NatTab (E_log_Hours I_log_Hours).C := ct_of (P := Tryz.prog) (T := T) (.cons ok_log_CheckLog (.cons ok_kit_IsWindow (.cons ok_kit_Has .nil))) (by kernel_rfl)
noncomputable def cb_log_Hours_L11 : Code := sub [1, 1, 1, 1, 1, 1, 0, 1, 0, 0] code_7
theorem s_log_Hours_L11 (g : C_log_Hours) (n : Nat) : StepOk (E_log_Hours g) g.N cb_log_Hours_L11 sh_log_Hours_L11 (LP_log_Hours_L11 g) n := by intro ps; unfold LP_log_Hours_L11; split; exact .inr fun R K => (by kernel_rfl); exact .inl fun R K => rfl
theorem lf_log_Hours_L11 [Fuel] : LoopFine (E_log_Hours I_log_Hours) NN cb_log_Hours_L11 := fine_loop sh_log_Hours_L11 (LP_log_Hours_L11 I_log_Hours) (by kernel_rfl) ct_log_Hours (cuts0 (fun _ => rfl) (by kernel_rfl)) (fun ps R K => by unfold LP_log_Hours_L11; split <;> (try unfold log_Hours_L11) <;> rfl) (s_log_Hours_L11 I_log_Hours)
theorem sm_log_Hours (g : C_log_Hours) : Same (SS_log_Hours (@log_Hours_ g)) (abody (E_log_Hours g) Tryz.f7 code_7 3 [] [.arr 3, .asis] g.N) := by intro args; unfold SS_log_Hours; split; exact .inr fun R k => (by kernel_rfl); exact .inl fun R k => rfl
theorem ok_log_Hours [Fuel] : Ok 7 (SS_log_Hours (@log_Hours _)) := okF_of std (.cons ok_log_CheckLog (.cons ok_kit_IsWindow (.cons ok_kit_Has .nil))) ⟨rfl, rfl, by kernel_rfl, rfl, rfl, rfl⟩ (sm_log_Hours I_log_Hours) (cutsL (fun _ => rfl) (.cons lf_log_Hours_L11 .nil) (by kernel_rfl)) Tryz.func7 (by kernel_rfl) (by kernel_rfl)
abbrev T_keep_errs : Type 1 := List Int → {R : Type} → (Int → Option R) → Option R
def keep_errs_L2 (g : Nat) : Nat → List Int → Int → Int → {R : Type} → (Int → Option R) → Option R → Option R
 | 0, _, _, _, _, _, _ => none
 | n + 1, v2, v3, v4, _, e0, e1 => (bif (decide (v4 < v3)) then (get_ v2 v4 fun x6 => (bif (x6 != 0) then e0 x6 else keep_errs_L2 g n v2 v3 (w64 (v4 + 1)) e0 e1)) else e1)
def keep_errs_ (g : Nat) (a1 : List Int) {R : Type} (k0 : Int → Option R) : Option R :=
 (keep_errs_L2 g g a1 (a1.length : Int) 0 (fun e7 => k0 e7) (k0 0))
noncomputable def keep_errs [Fuel] : T_keep_errs := @keep_errs_ NN
def SS_keep_errs (g : T_keep_errs) : Spec A := fun args => match args with | [.d (.sl 32 a1)] => fun k => g a1 (fun z0 => k (.d (.int .i64 z0)) [.undef]) | _ => fun _ => none
def sh_keep_errs_L2 : SSt := mkSh 15 0 [(5, .sl 32), (6, .int .i64), (7, .int .i64)] []
def LP_keep_errs_L2 (g : Nat) (n : Nat) : LPT A := fun ps => match ps with | [.d (.sl 32 p1), .d (.int .i64 p2), .d (.int .i64 p3)] => fun K => keep_errs_L2 g n p1 p2 p3 (fun z0 => K .ret (mkSt 15 0 [(2, .d (.int .i64 z0))] [])) (K (.exit 0) (mkSt 15 0 [] [])) | _ => fun _ => none
noncomputable def code_8 : Code := (Tryz.f8.body).getD .skip
noncomputable def E_keep_errs (g : Nat) : Env A := mkE [] [] [(2, ⟨[5, 6, 7], [], [], []⟩)] [(2, ⟨[2], [], [], []⟩)] [(2, pieceOf sh_keep_errs_L2 (LP_keep_errs_L2 g g))] [] [] [] [] []
theorem ct_keep_errs [Fuel] : NatTab (E_keep_errs NN).C := ct_of (P := Tryz.prog) (T := T) .nil (by kernel_rfl)
noncomputable def cb_keep_errs_L2 : Code := sub [1, 0, 1, 0, 0] code_8
theorem s_keep_errs_L2 (g : Nat) (n : Nat) : StepOk (E_keep_errs g) g cb_keep_errs_L2 sh_keep_errs_L2 (LP_keep_errs_L2 g) n := by intro ps; unfold LP_keep_errs_L2; split; exact .inr fun R K => (by kernel_rfl); exact .inl fun R K => rfl
theorem lf_keep_errs_L2 [Fuel] : LoopFine (E_keep_errs NN) NN cb_keep_errs_L2 := fine_loop sh_keep_errs_L2 (LP_keep_errs_L2 NN) (by kernel_rfl) ct_keep_errs (cuts0 (fun _ => rfl) (by kernel_rfl)) (fun ps R K => by unfold LP_keep_errs_L2; split <;> (try unfold keep_errs_L2) <;> rfl) (s_keep_errs_L2 NN)
theorem sm_keep_errs (g : Nat) : Same (SS_keep_errs (@keep_errs_ g)) (abody (E_keep_errs g) Tryz.f8 code_8 0 [] [.asis] g) := by intro args; unfold SS_keep_errs; split; exact .inr fun R k => (by kernel_rfl); exact .inl fun R k => rfl
theorem ok_keep_errs [Fuel] : Ok 8 (SS_keep_errs (@keep_errs _)) := okF_of std .nil ⟨rfl, rfl, by kernel_rfl, rfl, rfl, rfl⟩ (sm_keep_errs NN) (cutsL (fun _ => rfl) (.cons lf_keep_errs_L2 .nil) (by kernel_rfl)) Tryz.func8 (by kernel_rfl) (by kernel_rfl)
abbrev T_keep_PausesAreEmpty_1 : Type 1 := G_Window → G_Contact → {R : Type} → (Bool → G_Contact → Option R) → Option R
def keep_PausesAreEmpty_1_ (g : Nat) (a1 : G_Window) (a2 : G_Contact) {R : Type} (k0 : Bool → G_Contact → Option R) : Option R :=
 (bif (decide (a1.f_From ≤ a2.f_At)) then k0 (decide (a2.f_At < a1.f_To)) a2 else k0 false a2)
noncomputable def keep_PausesAreEmpty_1 [Fuel] : T_keep_PausesAreEmpty_1 := @keep_PausesAreEmpty_1_ NN
def SS_keep_PausesAreEmpty_1 (g : T_keep_PausesAreEmpty_1) : Spec A := fun args => match args with | [.agg [.d (.int .i64 a1), .d (.int .i64 a2)], .box [.d (.int .i64 a3), .d (.int .i64 a4), .d (.str a5), .d (.str a6), .d (.int .i64 a7), .d (.int .i64 a8), .d (.str a9), .d (.str a10)]] => fun k => g ⟨a1, a2⟩ ⟨a3, a4, a5, a6, a7, a8, a9, a10⟩ (fun z0 z1 => k (.d (.bool z0)) [.undef, .box [.d (.int .i64 z1.f_At), .d (.int .i64 z1.f_Mode), .d (.str z1.f_Band), .d (.str z1.f_Call), .d (.int .i64 z1.f_Sent), .d (.int .i64 z1.f_Heard), .d (.str z1.f_Gave), .d (.str z1.f_Got)]]) | _ => fun _ => none
noncomputable def code_10 : Code := (Tryz.f10.body).getD .skip
noncomputable def E_keep_PausesAreEmpty_1 (g : Nat) : Env A := mkE [] [(2, [1])] [] [] [] [] [] [] [] [1]
theorem sm_keep_PausesAreEmpty_1 (g : Nat) : Same (SS_keep_PausesAreEmpty_1 (@keep_PausesAreEmpty_1_ g)) (abody (E_keep_PausesAreEmpty_1 g) Tryz.f10 code_10 2 [0] [.asis] g) := by intro args; unfold SS_keep_PausesAreEmpty_1; split; exact .inr fun R k => (by kernel_rfl); exact .inl fun R k => rfl
theorem ok_keep_PausesAreEmpty_1 [Fuel] : Ok 10 (SS_keep_PausesAreEmpty_1 (@keep_PausesAreEmpty_1 _)) := okF_of std .nil ⟨rfl, rfl, by kernel_rfl, rfl, rfl, rfl⟩ (sm_keep_PausesAreEmpty_1 NN) (cuts0 (fun _ => rfl) (by kernel_rfl)) Tryz.func10 (by kernel_rfl) (by kernel_rfl)
abbrev T_slices_IndexFunc__Window_keep_PausesAreEmpty_1 : Type 1 := List G_Window → G_Contact → {R : Type} → (Int → G_Contact → Option R) → Option R
structure C_slices_IndexFunc__Window_keep_PausesAreEmpty_1 where
 N : Nat
 keep_PausesAreEmpty_1 : T_keep_PausesAreEmpty_1
def slices_IndexFunc__Window_keep_PausesAreEmpty_1_L2 (g : C_slices_IndexFunc__Window_keep_PausesAreEmpty_1) : Nat → List G_Window → Int → Int → G_Contact → {R : Type} → (Int → G_Contact → Option R) → (G_Contact → Option R) → Option R
 | 0, _, _, _, _, _, _, _ => none
 | n + 1, v3, v4, v5, v6, _, e0, e1 => (bif (decide (v5 < v4)) then (get_ v3 v5 fun x10 => (g.keep_PausesAreEmpty_1 x10 v6 (fun r11 r12 => (bif r11 then e0 v5 r12 else slices_IndexFunc__Window_keep_PausesAreEmpty_1_L2 g n v3 v4 (w64 (v5 + 1)) r12 e0 e1)))) else e1 v6)
def slices_IndexFunc__Window_keep_PausesAreEmpty_1_ (g : C_slices_IndexFunc__Window_keep_PausesAreEmpty_1) (a1 : List G_Window) (a2 : G_Contact) {R : Type} (k0 : Int → G_Contact → Option R) : Option R :=
 (slices_IndexFunc__Window_keep_PausesAreEmpty_1_L2 g g.N a1 (a1.length : Int) 0 a2 (fun e13 e14 => k0 e13 e14) (fun e15 => k0 (-1) e15))
noncomputable def I_slices_IndexFunc__Window_keep_PausesAreEmpty_1 [Fuel] : C_slices_IndexFunc__Window_keep_PausesAreEmpty_1 := ⟨NN, @keep_PausesAreEmpty_1 _⟩
noncomputable def slices_IndexFunc__Window_keep_PausesAreEmpty_1 [Fuel] : T_slices_IndexFunc__Window_keep_PausesAreEmpty_1 := @slices_IndexFunc__Window_keep_PausesAreEmpty_1_ I_slices_IndexFunc__Window_keep_PausesAreEmpty_1
def SS_slices_IndexFunc__Window_keep_PausesAreEmpty_1 (g : T_slices_IndexFunc__Window_keep_PausesAreEmpty_1) : Spec A := fun args => match args with | [.d (.sl 30 a1), .fn 10 [.box [.d (.int .i64 a2), .d (.int .i64 a3), .d (.str a4), .d (.str a5), .d (.int .i64 a6), .d (.int .i64 a7), .d (.str a8), .d (.str a9)]]] => fun k => g a1 ⟨a2, a3, a4, a5, a6, a7, a8, a9⟩ (fun z0 z1 => k (.d (.int .i64 z0)) [.undef, .fn 10 [.box [.d (.int .i64 z1.f_At), .d (.int .i64 z1.f_Mode), .d (.str z1.f_Band), .d (.str z1.f_Call), .d (.int .i64 z1.f_Sent), .d (.int .i64 z1.f_Heard), .d (.str z1.f_Gave), .d (.str z1.f_Got)]]]) | _ => fun _ => none
def sh_slices_IndexFunc__Window_keep_PausesAreEmpty_1_L2 : SSt := mkSh 19 1 [(0, .sl 30), (1, .fn 10 [.ptr 0 0]), (7, .int .i64), (8, .int .i64)] [(0, .box [.int .i64, .int .i64, .str, .str, .int .i64, .int .i64, .str, .str])]
def LP_slices_IndexFunc__Window_keep_PausesAreEmpty_1_L2 (g : C_slices_IndexFunc__Window_keep_PausesAreEmpty_1) (n : Nat) : LPT A := fun ps => match ps with | [.d (.sl 30 p1), .d (.int .i64 p2), .d (.int .i64 p3), .d (.int .i64 p4), .d (.int .i64 p5), .d (.str p6), .d (.str p7), .d (.int .i64 p8), .d (.int .i64 p9), .d (.str p10), .d (.str p11)] => fun K => slices_IndexFunc__Window_keep_PausesAreEmpty_1_L2 g n p1 p2 p3 ⟨p4, p5, p6, p7, p8, p9, p10, p11⟩ (fun z0 z1 => K .ret (mkSt 19 1 [(1, .fn 10 [.ptr 0 0]), (4, .d (.int .i64 z0))] [(0, some (.box [.d (.int .i64 z1.f_At), .d (.int .i64 z1.f_Mode), .d (.str z1.f_Band), .d (.str z1.f_Call), .d (.int .i64 z1.f_Sent), .d (.int .i64 z1.f_Heard), .d (.str z1.f_Gave), .d (.str z1.f_Got)]))])) (fun z0 => K (.exit 0) (mkSt 19 1 [(1, .fn 10 [.ptr 0 0])] [(0, some (.box [.d (.int .i64 z0.f_At), .d (.int .i64 z0.f_Mode), .d (.str z0.f_Band), .d (.str z0.f_Call), .d (.int .i64 z0.f_Sent), .d (.int .i64 z0.f_Heard), .d (.str z0.f_Gave), .d (.str z0.f_Got)]))])) | _ => fun _ => none
noncomputable def code_20 : Code := (Tryz.f20.body).getD .skip
noncomputable def E_slices_IndexFunc__Window_keep_PausesAreEmpty_1 (g : C_slices_IndexFunc__Window_keep_PausesAreEmpty_1) : Env A := mkE [(10, SS_keep_PausesAreEmpty_1 g.keep_PausesAreEmpty_1)] [] [(2, ⟨[0, 1, 7, 8], [], [0], []⟩)] [(2, ⟨[1, 4], [], [0], []⟩)] [(2, pieceOf sh_slices_IndexFunc__Window_keep_PausesAreEmpty_1_L2 (LP_slices_IndexFunc__Window_keep_PausesAreEmpty_1_L2 g g.N))] [] [] [] [] [1]
theorem ct_slices_IndexFunc__Window_keep_PausesAreEmpty_1 [Fuel] : NatTab (E_slices_IndexFunc__Window_keep_PausesAreEmpty_1 I_slices_IndexFunc__Window_keep_PausesAreEmpty_1).C := ct_of (P := Tryz.prog) (T := T) (.cons ok_keep_PausesAreEmpty_1 .nil) (by kernel_rfl)
noncomputable def cb_slices_IndexFunc__Window_keep_PausesAreEmpty_1_L2 : Code := sub [1, 0, 1, 0, 0] code_20
theorem s_slices_IndexFunc__Window_keep_PausesAreEmpty_1_L2 (g : C_slices_IndexFunc__Window_keep_PausesAreEmpty_1) (n : Nat) : StepOk (E_slices_IndexFunc__Window_keep_PausesAreEmpty_1 g) g.N cb_slices_IndexFunc__Window_keep_PausesAreEmpty_1_L2 sh_slices_IndexFunc__Window_keep_PausesAreEmpty_1_L2 (LP_slices_IndexFunc__Window_keep_PausesAreEmpty_1_L2 g) n := by intro ps; unfold LP_slices_IndexFunc__Window_keep_PausesAreEmpty_1_L2; split; exact .inr fun R K => (by kernel_rfl); exact .inl fun R K => rfl
theorem lf_slices_IndexFunc__Window_keep_PausesAreEmpty_1_L2 [Fuel] : LoopFine (E_slices_IndexFunc__Window_keep_PausesAreEmpty_1 I_slices_IndexFunc__Window_keep_PausesAreEmpty_1) NN cb_slices_IndexFunc__Window_keep_PausesAreEmpty_1_L2 := fine_loop sh_slices_IndexFunc__Window_keep_PausesAreEmpty_1_L2 (LP_slices_IndexFunc__Window_keep_PausesAreEmpty_1_L2 I_slices_IndexFunc__Window_keep_PausesAreEmpty_1) (by kernel_rfl) ct_slices_IndexFunc__Window_keep_PausesAreEmpty_1 (cuts0 (fun _ => rfl) (by kernel_rfl)) (fun ps R K => by unfold LP_slices_IndexFunc__Window_keep_PausesAreEmpty_1_L2; split <;> (try unfold slices_IndexFunc__Window_keep_PausesAreEmpty_1_L2) <;> rfl) (s_slices_IndexFunc__Window_keep_PausesAreEmpty_1_L2 I_slices_IndexFunc__Window_keep_PausesAreEmpty_1)
theorem sm_slices_IndexFunc__Window_keep_PausesAreEmpty_1 (g : C_slices_IndexFunc__Window_keep_PausesAreEmpty_1) : Same (SS_slices_IndexFunc__Window_keep_PausesAreEmpty_1 (@slices_IndexFunc__Window_keep_PausesAreEmpty_1_ g)) (abody (E_slices_IndexFunc__Window_keep_PausesAreEmpty_1 g) Tryz.f20 code_20 1 [0] [.asis] g.N) := by intro args; unfold SS_slices_IndexFunc__Window_keep_PausesAreEmpty_1; split; exact .inr fun R k => (by kernel_rfl); exact .inl fun R k => rfl
theorem ok_slices_IndexFunc__Window_keep_PausesAreEmpty_1 [Fuel] : Ok 20 (SS_slices_IndexFunc__Window_keep_PausesAreEmpty_1 (@slices_IndexFunc__Window_keep_PausesAreEmpty_1 _)) := okF_of std (.cons ok_keep_PausesAreEmpty_1 .nil) ⟨rfl, rfl, by kernel_rfl, rfl, rfl, rfl⟩ (sm_slices_IndexFunc__Window_keep_PausesAreEmpty_1 I_slices_IndexFunc__Window_keep_PausesAreEmpty_1) (cutsL (fun _ => rfl) (.cons lf_slices_IndexFunc__Window_keep_PausesAreEmpty_1_L2 .nil) (by kernel_rfl)) Tryz.func20 (by kernel_rfl) (by kernel_rfl)
abbrev T_slices_ContainsFunc__Window_keep_PausesAreEmpty_1 : Type 1 := List G_Window → G_Contact → {R : Type} → (Bool → G_Contact → Option R) → Option R
structure C_slices_ContainsFunc__Window_keep_PausesAreEmpty_1 where
 N : Nat
 slices_IndexFunc__Window_keep_PausesAreEmpty_1 : T_slices_IndexFunc__Window_keep_PausesAreEmpty_1
def slices_ContainsFunc__Window_keep_PausesAreEmpty_1_ (g : C_slices_ContainsFunc__Window_keep_PausesAreEmpty_1) (a1 : List G_Window) (a2 : G_Contact) {R : Type} (k0 : Bool → G_Contact → Option R) : Option R :=
 (g.slices_IndexFunc__Window_keep_PausesAreEmpty_1 a1 a2 (fun r3 r4 => k0 (decide (r3 ≥ 0)) r4))
noncomputable def I_slices_ContainsFunc__Window_keep_PausesAreEmpty_1 [Fuel] : C_slices_ContainsFunc__Window_keep_PausesAreEmpty_1 := ⟨NN, @slices_IndexFunc__Window_keep_PausesAreEmpty_1 _⟩
noncomputable def slices_ContainsFunc__Window_keep_PausesAreEmpty_1 [Fuel] : T_slices_ContainsFunc__Window_keep_PausesAreEmpty_1 := @slices_ContainsFunc__Window_keep_PausesAreEmpty_1_ I_slices_ContainsFunc__Window_keep_PausesAreEmpty_1
def SS_slices_ContainsFunc__Window_keep_PausesAreEmpty_1 (g : T_slices_ContainsFunc__Window_keep_PausesAreEmpty_1) : Spec A := fun args => match args with | [.d (.sl 30 a1), .fn 10 [.box [.d (.int .i64 a2), .d (.int .i64 a3), .d (.str a4), .d (.str a5), .d (.int .i64 a6), .d (.int .i64 a7), .d (.str a8), .d (.str a9)]]] => fun k => g a1 ⟨a2, a3, a4, a5, a6, a7, a8, a9⟩ (fun z0 z1 => k (.d (.bool z0)) [.undef, .fn 10 [.box [.d (.int .i64 z1.f_At), .d (.int .i64 z1.f_Mode), .d (.str z1.f_Band), .d (.str z1.f_Call), .d (.int .i64 z1.f_Sent), .d (.int .i64 z1.f_Heard), .d (.str z1.f_Gave), .d (.str z1.f_Got)]]]) | _ => fun _ => none
noncomputable def code_9 : Code := (Tryz.f9.body).getD .skip
noncomputable def E_slices_ContainsFunc__Window_keep_PausesAreEmpty_1 (g : C_slices_ContainsFunc__Window_keep_PausesAreEmpty_1) : Env A := mkE [(20, SS_slices_IndexFunc__Window_keep_PausesAreEmpty_1 g.slices_IndexFunc__Window_keep_PausesAreEmpty_1)] [] [] [] [] [] [] [] [(20, 0)] [1]
theorem sm_slices_ContainsFunc__Window_keep_PausesAreEmpty_1 (g : C_slices_ContainsFunc__Window_keep_PausesAreEmpty_1) : Same (SS_slices_ContainsFunc__Window_keep_PausesAreEmpty_1 (@slices_ContainsFunc__Window_keep_PausesAreEmpty_1_ g)) (abody (E_slices_ContainsFunc__Window_keep_PausesAreEmpty_1 g) Tryz.f9 code_9 1 [0] [.asis] g.N) := by intro args; unfold SS_slices_ContainsFunc__Window_keep_PausesAreEmpty_1; split; exact .inr fun R k => (by kernel_rfl); exact .inl fun R k => rfl
theorem ok_slices_ContainsFunc__Window_keep_PausesAreEmpty_1 [Fuel] : Ok 9 (SS_slices_ContainsFunc__Window_keep_PausesAreEmpty_1 (@slices_ContainsFunc__Window_keep_PausesAreEmpty_1 _)) := okF_of std (.cons ok_slices_IndexFunc__Window_keep_PausesAreEmpty_1 .nil) ⟨rfl, rfl, by kernel_rfl, rfl, rfl, rfl⟩ (sm_slices_ContainsFunc__Window_keep_PausesAreEmpty_1 I_slices_ContainsFunc__Window_keep_PausesAreEmpty_1) (cuts0 (fun _ => rfl) (by kernel_rfl)) Tryz.func9 (by kernel_rfl) (by kernel_rfl)
abbrev T_call_BaseOf : Type 1 := List UInt8 → {R : Type} → (List UInt8 → Option R) → Option R
structure C_call_BaseOf where
 N : Nat
 call_Parts : T_call_Parts
def call_BaseOf_ (g : C_call_BaseOf) (a1 : List UInt8) {R : Type} (k0 : List UInt8 → Option R) : Option R :=
 (g.call_Parts a1 (fun r2 r3 => k0 r2.f_Base))
noncomputable def I_call_BaseOf [Fuel] : C_call_BaseOf := ⟨NN, @call_Parts _⟩
noncomputable def call_BaseOf [Fuel] : T_call_BaseOf := @call_BaseOf_ I_call_BaseOf
def SS_call_BaseOf (g : T_call_BaseOf) : Spec A := fun args => match args with | [.d (.str a1)] => fun k => g a1 (fun z0 => k (.d (.str z0)) [.undef]) | _ => fun _ => none
noncomputable def code_63 : Code := (Tryz.f63.body).getD .skip
noncomputable def E_call_BaseOf (g : C_call_BaseOf) : Env A := mkE [(84, SS_call_Parts g.call_Parts)] [(3, [0])] [] [] [] [] [] [] [] []
theorem sm_call_BaseOf (g : C_call_BaseOf) : Same (SS_call_BaseOf (@call_BaseOf_ g)) (abody (E_call_BaseOf g) Tryz.f63 code_63 1 [] [.asis] g.N) := by intro args; unfold SS_call_BaseOf; split; exact .inr fun R k => (by kernel_rfl); exact .inl fun R k => rfl
theorem ok_call_BaseOf [Fuel] : Ok 63 (SS_call_BaseOf (@call_BaseOf _)) := okF_of std (.cons ok_call_Parts .nil) ⟨rfl, rfl, by kernel_rfl, rfl, rfl, rfl⟩ (sm_call_BaseOf I_call_BaseOf) (cuts0 (fun _ => rfl) (by kernel_rfl)) Tryz.func63 (by kernel_rfl) (by kernel_rfl)
abbrev T_log_dupes : Type 1 := List G_Contact → {R : Type} → (List Int → Option R) → Option R
structure C_log_dupes where
 N : Nat
 call_BaseOf : T_call_BaseOf
def log_dupes_L4 (g : C_log_dupes) : Nat → List G_Contact → Int → Int → List (G_log_worked × Bool) → List Int → {R : Type} → (List Int → Option R) → Option R
 | 0, _, _, _, _, _, _, _ => none
 | n + 1, v2, v3, v4, v5, v6, _, e0 => (bif (decide (v4 < v3)) then (get_ v2 v4 fun x9 => (g.call_BaseOf x9.f_Call (fun r10 => (bif ((mget_log_worked_bool (⟨r10, x9.f_Band, x9.f_Mode⟩ : G_log_worked) v5).getD false) then (bif (decide ((v6.length + [v4].length) * 8 ≤ roomBytes')) then log_dupes_L4 g n v2 v3 (w64 (v4 + 1)) (mset_log_worked_bool (⟨r10, x9.f_Band, x9.f_Mode⟩ : G_log_worked) true v5) (v6 ++ [v4]) e0 else none) else log_dupes_L4 g n v2 v3 (w64 (v4 + 1)) (mset_log_worked_bool (⟨r10, x9.f_Band, x9.f_Mode⟩ : G_log_worked) true v5) v6 e0)))) else e0 v6)
def log_dupes_ (g : C_log_dupes) (a1 : List G_Contact) {R : Type} (k0 : List Int → Option R) : Option R :=
 (log_dupes_L4 g g.N a1 (a1.length : Int) 0 [] [] (fun e11 => k0 e11))
noncomputable def I_log_dupes [Fuel] : C_log_dupes := ⟨NN, @call_BaseOf _⟩
noncomputable def log_dupes [Fuel] : T_log_dupes := @log_dupes_ I_log_dupes
def SS_log_dupes (g : T_log_dupes) : Spec A := fun args => match args with | [.d (.sl 39 a1)] => fun k => g a1 (fun z0 => k (.arr 3 z0) [.undef]) | _ => fun _ => none
def sh_log_dupes_L4 : SSt := mkSh 35 6 [(3, .mp 0), (4, .own 3 1), (9, .sl 39), (10, .int .i64), (11, .int .i64)] [(0, .mp 100 4), (1, .row 3)]
def LP_log_dupes_L4 (g : C_log_dupes) (n : Nat) : LPT A := fun ps => match ps with | [.d (.sl 39 p1), .d (.int .i64 p2), .d (.int .i64 p3), .mp 100 4 p4, .d (.sl 3 p5)] => fun K => log_dupes_L4 g n p1 p2 p3 p4 p5 (fun z0 => K (.exit 0) (mkSt 35 6 [(4, .own 3 1)] [(1, some (.row 3 z0))])) | _ => fun _ => none
noncomputable def code_35 : Code := (Tryz.f35.body).getD .skip
noncomputable def E_log_dupes (g : C_log_dupes) : Env A := mkE [(63, SS_call_BaseOf g.call_BaseOf)] [(6, [2]), (7, [3]), (8, [0]), (29, [4]), (30, [5])] [(4, ⟨[3, 4, 9, 10, 11], [(4, 3, 1)], [0], []⟩)] [(4, ⟨[4], [], [1], []⟩)] [(4, pieceOf sh_log_dupes_L4 (LP_log_dupes_L4 g g.N))] [] [] [] [] []
theorem ct_log_dupes [Fuel] : NatTab (E_log_dupes I_log_dupes).C := ct_of (P := Tryz.prog) (T := T) (.cons ok_call_BaseOf .nil) (by kernel_rfl)
noncomputable def cb_log_dupes_L4 : Code := sub [1, 1, 1, 0, 1, 0, 0] code_35
theorem s_log_dupes_L4 (g : C_log_dupes) (n : Nat) : StepOk (E_log_dupes g) g.N cb_log_dupes_L4 sh_log_dupes_L4 (LP_log_dupes_L4 g) n := by intro ps; unfold LP_log_dupes_L4; split; exact .inr fun R K => (by kernel_rfl); exact .inl fun R K => rfl
theorem lf_log_dupes_L4 [Fuel] : LoopFine (E_log_dupes I_log_dupes) NN cb_log_dupes_L4 := fine_loop sh_log_dupes_L4 (LP_log_dupes_L4 I_log_dupes) (by kernel_rfl) ct_log_dupes (cuts0 (fun _ => rfl) (by kernel_rfl)) (fun ps R K => by unfold LP_log_dupes_L4; split <;> (try unfold log_dupes_L4) <;> rfl) (s_log_dupes_L4 I_log_dupes)
theorem sm_log_dupes (g : C_log_dupes) : Same (SS_log_dupes (@log_dupes_ g)) (abody (E_log_dupes g) Tryz.f35 code_35 6 [] [.arr 3] g.N) := by intro args; unfold SS_log_dupes; split; exact .inr fun R k => (by kernel_rfl); exact .inl fun R k => rfl
theorem ok_log_dupes [Fuel] : Ok 35 (SS_log_dupes (@log_dupes _)) := okF_of std (.cons ok_call_BaseOf .nil) ⟨rfl, rfl, by kernel_rfl, rfl, rfl, rfl⟩ (sm_log_dupes I_log_dupes) (cutsL (fun _ => rfl) (.cons lf_log_dupes_L4 .nil) (by kernel_rfl)) Tryz.func35 (by kernel_rfl) (by kernel_rfl)
abbrev T_log_Dupes : Type 1 := List G_Contact → {R : Type} → (List Int → Int → Option R) → Option R
structure C_log_Dupes where
 N : Nat
 log_CheckLog : T_log_CheckLog
 log_dupes : T_log_dupes
def log_Dupes_ (g : C_log_Dupes) (a1 : List G_Contact) {R : Type} (k0 : List Int → Int → Option R) : Option R :=
 (g.log_CheckLog a1 (fun r2 => (bif (r2 != 0) then k0 [] r2 else (g.log_dupes a1 (fun r3 => k0 r3 0)))))
noncomputable def I_log_Dupes [Fuel] : C_log_Dupes := ⟨NN, @log_CheckLog _, @log_dupes _⟩
noncomputable def log_Dupes [Fuel] : T_log_Dupes := @log_Dupes_ I_log_Dupes
def SS_log_Dupes (g : T_log_Dupes) : Spec A := fun args => match args with | [.d (.sl 39 a1)] => fun k => g a1 (fun z0 z1 => k (.tup [.arr 3 z0, .d (.int .i64 z1)]) [.undef]) | _ => fun _ => none
noncomputable def code_21 : Code := (Tryz.f21.body).getD .skip
noncomputable def E_log_Dupes (g : C_log_Dupes) : Env A := mkE [(15, SS_log_CheckLog g.log_CheckLog), (35, SS_log_dupes g.log_dupes)] [(11, [0])] [] [] [] [] [] [] [] []
theorem sm_log_Dupes (g : C_log_Dupes) : Same (SS_log_Dupes (@log_Dupes_ g)) (abody (E_log_Dupes g) Tryz.f21 code_21 1 [] [.arr 3, .asis] g.N) := by intro args; unfold SS_log_Dupes; split; exact .inr fun R k => (by kernel_rfl); exact .inl fun R k => rfl
theorem ok_log_Dupes [Fuel] : Ok 21 (SS_log_Dupes (@log_Dupes _)) := okF_of std (.cons ok_log_CheckLog (.cons ok_log_dupes .nil)) ⟨rfl, rfl, by kernel_rfl, rfl, rfl, rfl⟩ (sm_log_Dupes I_log_Dupes) (cuts0 (fun _ => rfl) (by kernel_rfl)) Tryz.func21 (by kernel_rfl) (by kernel_rfl)
abbrev T_band_modesFault : Type 1 := List Int → {R : Type} → (Int → Option R) → Option R
structure C_band_modesFault where
 N : Nat
 kit_IsMode : T_kit_IsMode
def band_modesFault_L4 (g : C_band_modesFault) : Nat → List Int → List Int → Int → Int → {R : Type} → (Int → Option R) → Option R → Option R
 | 0, _, _, _, _, _, _, _ => none
 | n + 1, v2, v3, v4, v5, _, e0, e1 => (bif (decide (v5 < v4)) then (get_ v3 v5 fun x9 => (g.kit_IsMode x9 (fun r10 => (bif (!r10) then e0 4 else (bif (decide (v5 > 0)) then (get_ v2 (w64 (v5 - 1)) fun x11 => (bif (decide (x9 ≤ x11)) then e0 7 else band_modesFault_L4 g n v2 v3 v4 (w64 (v5 + 1)) e0 e1)) else band_modesFault_L4 g n v2 v3 v4 (w64 (v5 + 1)) e0 e1))))) else e1)
def band_modesFault_ (g : C_band_modesFault) (a1 : List Int) {R : Type} (k0 : Int → Option R) : Option R :=
 (bif ((a1.length : Int) == 0) then k0 8 else (band_modesFault_L4 g g.N a1 a1 (a1.length : Int) 0 (fun e12 => k0 e12) (k0 0)))
noncomputable def I_band_modesFault [Fuel] : C_band_modesFault := ⟨NN, @kit_IsMode _⟩
noncomputable def band_modesFault [Fuel] : T_band_modesFault := @band_modesFault_ I_band_modesFault
def SS_band_modesFault (g : T_band_modesFault) : Spec A := fun args => match args with | [.d (.sl 3 a1)] => fun k => g a1 (fun z0 => k (.d (.int .i64 z0)) [.undef]) | _ => fun _ => none
def sh_band_modesFault_L4 : SSt := mkSh 30 0 [(0, .sl 3), (8, .sl 3), (9, .int .i64), (10, .int .i64)] []
def LP_band_modesFault_L4 (g : C_band_modesFault) (n : Nat) : LPT A := fun ps => match ps with | [.d (.sl 3 p1), .d (.sl 3 p2), .d (.int .i64 p3), .d (.int .i64 p4)] => fun K => band_modesFault_L4 g n p1 p2 p3 p4 (fun z0 => K .ret (mkSt 30 0 [(2, .d (.int .i64 z0))] [])) (K (.exit 0) (mkSt 30 0 [] [])) | _ => fun _ => none
noncomputable def code_64 : Code := (Tryz.f64.body).getD .skip
noncomputable def E_band_modesFault (g : C_band_modesFault) : Env A := mkE [(38, SS_kit_IsMode g.kit_IsMode)] [] [(4, ⟨[0, 8, 9, 10], [], [], []⟩)] [(4, ⟨[2], [], [], []⟩)] [(4, pieceOf sh_band_modesFault_L4 (LP_band_modesFault_L4 g g.N))] [] [] [] [] []
theorem ct_band_modesFault [Fuel] : NatTab (E_band_modesFault I_band_modesFault).C := ct_of (P := Tryz.prog) (T := T) (.cons ok_kit_IsMode .nil) (by kernel_rfl)
noncomputable def cb_band_modesFault_L4 : Code := sub [1, 1, 0, 1, 0, 0] code_64
theorem s_band_modesFault_L4 (g : C_band_modesFault) (n : Nat) : StepOk (E_band_modesFault g) g.N cb_band_modesFault_L4 sh_band_modesFault_L4 (LP_band_modesFault_L4 g) n := by intro ps; unfold LP_band_modesFault_L4; split; exact .inr fun R K => (by kernel_rfl); exact .inl fun R K => rfl
theorem lf_band_modesFault_L4 [Fuel] : LoopFine (E_band_modesFault I_band_modesFault) NN cb_band_modesFault_L4 := fine_loop sh_band_modesFault_L4 (LP_band_modesFault_L4 I_band_modesFault) (by kernel_rfl) ct_band_modesFault (cuts0 (fun _ => rfl) (by kernel_rfl)) (fun ps R K => by unfold LP_band_modesFault_L4; split <;> (try unfold band_modesFault_L4) <;> rfl) (s_band_modesFault_L4 I_band_modesFault)
theorem sm_band_modesFault (g : C_band_modesFault) : Same (SS_band_modesFault (@band_modesFault_ g)) (abody (E_band_modesFault g) Tryz.f64 code_64 0 [] [.asis] g.N) := by intro args; unfold SS_band_modesFault; split; exact .inr fun R k => (by kernel_rfl); exact .inl fun R k => rfl
theorem ok_band_modesFault [Fuel] : Ok 64 (SS_band_modesFault (@band_modesFault _)) := okF_of std (.cons ok_kit_IsMode .nil) ⟨rfl, rfl, by kernel_rfl, rfl, rfl, rfl⟩ (sm_band_modesFault I_band_modesFault) (cutsL (fun _ => rfl) (.cons lf_band_modesFault_L4 .nil) (by kernel_rfl)) Tryz.func64 (by kernel_rfl) (by kernel_rfl)
abbrev T_kit_IsTime : Type 1 := G_Window → {R : Type} → (Bool → Option R) → Option R
def kit_IsTime_ (g : Nat) (a1 : G_Window) {R : Type} (k0 : Bool → Option R) : Option R :=
 (bif (decide (a1.f_From ≥ 0)) then (bif (decide (a1.f_From < a1.f_To)) then k0 (decide (a1.f_To ≤ 345686400000)) else k0 false) else k0 false)
noncomputable def kit_IsTime [Fuel] : T_kit_IsTime := @kit_IsTime_ NN
def SS_kit_IsTime (g : T_kit_IsTime) : Spec A := fun args => match args with | [.agg [.d (.int .i64 a1), .d (.int .i64 a2)]] => fun k => g ⟨a1, a2⟩ (fun z0 => k (.d (.bool z0)) [.undef]) | _ => fun _ => none
noncomputable def code_65 : Code := (Tryz.f65.body).getD .skip
noncomputable def E_kit_IsTime (g : Nat) : Env A := mkE [] [(1, [0])] [] [] [] [] [] [] [] []
theorem sm_kit_IsTime (g : Nat) : Same (SS_kit_IsTime (@kit_IsTime_ g)) (abody (E_kit_IsTime g) Tryz.f65 code_65 1 [] [.asis] g) := by intro args; unfold SS_kit_IsTime; split; exact .inr fun R k => (by kernel_rfl); exact .inl fun R k => rfl
theorem ok_kit_IsTime [Fuel] : Ok 65 (SS_kit_IsTime (@kit_IsTime _)) := okF_of std .nil ⟨rfl, rfl, by kernel_rfl, rfl, rfl, rfl⟩ (sm_kit_IsTime NN) (cuts0 (fun _ => rfl) (by kernel_rfl)) Tryz.func65 (by kernel_rfl) (by kernel_rfl)
abbrev T_band_compareSegments : Type 1 := G_Segment → G_Segment → {R : Type} → (Int → Option R) → Option R
structure C_band_compareSegments where
 N : Nat
 strings_Compare : T_strings_Compare
 cmp_Or__int : T_cmp_Or__int
 cmp_Compare__int : T_cmp_Compare__int
def band_compareSegments_ (g : C_band_compareSegments) (a1 a2 : G_Segment) {R : Type} (k0 : Int → Option R) : Option R :=
 (g.strings_Compare a1.f_Class a2.f_Class (fun r3 => (g.cmp_Compare__int a1.f_Low a2.f_Low (fun r4 => (g.cmp_Compare__int a1.f_High a2.f_High (fun r5 => (g.cmp_Compare__int a1.f_Time.f_From a2.f_Time.f_From (fun r6 => (g.cmp_Or__int [r3, r4, r5, r6] (fun r7 => k0 r7))))))))))
noncomputable def I_band_compareSegments [Fuel] : C_band_compareSegments := ⟨NN, @strings_Compare _, @cmp_Or__int _, @cmp_Compare__int _⟩
noncomputable def band_compareSegments [Fuel] : T_band_compareSegments := @band_compareSegments_ I_band_compareSegments
def SS_band_compareSegments (g : T_band_compareSegments) : Spec A := fun args => match args with | [.agg [.d (.str a1), .d (.int .i64 a2), .d (.int .i64 a3), .d (.sl 3 a4), .d (.int .i64 a5), .d (.int .i64 a6)], .agg [.d (.str a7), .d (.int .i64 a8), .d (.int .i64 a9), .d (.sl 3 a10), .d (.int .i64 a11), .d (.int .i64 a12)]] => fun k => g ⟨a1, a2, a3, a4, ⟨a5, a6⟩⟩ ⟨a7, a8, a9, a10, ⟨a11, a12⟩⟩ (fun z0 => k (.d (.int .i64 z0)) [.undef, .undef]) | _ => fun _ => none
noncomputable def code_66 : Code := (Tryz.f66.body).getD .skip
noncomputable def E_band_compareSegments (g : C_band_compareSegments) : Env A := mkE [(54, SS_strings_Compare g.strings_Compare), (61, SS_cmp_Or__int g.cmp_Or__int), (62, SS_cmp_Compare__int g.cmp_Compare__int)] [(2, [0]), (3, [1]), (27, [2])] [] [] [] [] [] [] [] []
theorem sm_band_compareSegments (g : C_band_compareSegments) : Same (SS_band_compareSegments (@band_compareSegments_ g)) (abody (E_band_compareSegments g) Tryz.f66 code_66 3 [] [.asis] g.N) := by intro args; unfold SS_band_compareSegments; split; exact .inr fun R k => (by kernel_rfl); exact .inl fun R k => rfl
theorem ok_band_compareSegments [Fuel] : Ok 66 (SS_band_compareSegments (@band_compareSegments _)) := okF_of std (.cons ok_strings_Compare (.cons ok_cmp_Or__int (.cons ok_cmp_Compare__int .nil))) ⟨rfl, rfl, by kernel_rfl, rfl, rfl, rfl⟩ (sm_band_compareSegments I_band_compareSegments) (cuts0 (fun _ => rfl) (by kernel_rfl)) Tryz.func66 (by kernel_rfl) (by kernel_rfl)
abbrev T_band_CheckSegments : Type 1 := List G_Segment → {R : Type} → (Int → Option R) → Option R
structure C_band_CheckSegments where
 N : Nat
 kit_IsKey : T_kit_IsKey
 band_modesFault : T_band_modesFault
 kit_IsTime : T_kit_IsTime
 band_compareSegments : T_band_compareSegments
def band_CheckSegments_L4 (g : C_band_CheckSegments) : Nat → List G_Segment → List G_Segment → Int → Int → {R : Type} → (Int → Option R) → Option R → Option R
 | 0, _, _, _, _, _, _, _ => none
 | n + 1, v2, v3, v4, v5, _, e0, e1 => (bif (decide (v5 < v4)) then (get_ v3 v5 fun x12 => (g.kit_IsKey x12.f_Class (fun r13 => (bif (!r13) then e0 5 else (bif (decide (x12.f_Low < 0)) then e0 1 else (bif (decide (x12.f_Low ≥ x12.f_High)) then e0 1 else (bif (decide (x12.f_High > 30000000000)) then e0 1 else (g.band_modesFault x12.f_Modes (fun r14 => (bif (r14 != 0) then e0 r14 else (g.kit_IsTime x12.f_Time (fun r15 => (bif (!r15) then e0 1 else (bif (decide (v5 > 0)) then (get_ v2 (w64 (v5 - 1)) fun x16 => (g.band_compareSegments x16 x12 (fun r17 => (bif (decide (r17 ≥ 0)) then e0 7 else band_CheckSegments_L4 g n v2 v3 v4 (w64 (v5 + 1)) e0 e1)))) else band_CheckSegments_L4 g n v2 v3 v4 (w64 (v5 + 1)) e0 e1)))))))))))))) else e1)
def band_CheckSegments_ (g : C_band_CheckSegments) (a1 : List G_Segment) {R : Type} (k0 : Int → Option R) : Option R :=
 (bif (decide ((a1.length : Int) > 500)) then k0 2 else (band_CheckSegments_L4 g g.N a1 a1 (a1.length : Int) 0 (fun e18 => k0 e18) (k0 0)))
noncomputable def I_band_CheckSegments [Fuel] : C_band_CheckSegments := ⟨NN, @kit_IsKey _, @band_modesFault _, @kit_IsTime _, @band_compareSegments _⟩
noncomputable def band_CheckSegments [Fuel] : T_band_CheckSegments := @band_CheckSegments_ I_band_CheckSegments
def SS_band_CheckSegments (g : T_band_CheckSegments) : Spec A := fun args => match args with | [.d (.sl 55 a1)] => fun k => g a1 (fun z0 => k (.d (.int .i64 z0)) [.undef]) | _ => fun _ => none
def sh_band_CheckSegments_L4 : SSt := mkSh 58 1 [(0, .sl 55), (9, .sl 55), (10, .int .i64), (11, .int .i64)] []
def LP_band_CheckSegments_L4 (g : C_band_CheckSegments) (n : Nat) : LPT A := fun ps => match ps with | [.d (.sl 55 p1), .d (.sl 55 p2), .d (.int .i64 p3), .d (.int .i64 p4)] => fun K => band_CheckSegments_L4 g n p1 p2 p3 p4 (fun z0 => K .ret (mkSt 58 1 [(2, .d (.int .i64 z0))] [])) (K (.exit 0) (mkSt 58 1 [] [])) | _ => fun _ => none
noncomputable def code_36 : Code := (Tryz.f36.body).getD .skip
noncomputable def E_band_CheckSegments (g : C_band_CheckSegments) : Env A := mkE [(37, SS_kit_IsKey g.kit_IsKey), (64, SS_band_modesFault g.band_modesFault), (65, SS_kit_IsTime g.kit_IsTime), (66, SS_band_compareSegments g.band_compareSegments)] [(4, [0])] [(4, ⟨[0, 9, 10, 11], [], [], []⟩)] [(4, ⟨[2], [], [], []⟩)] [(4, pieceOf sh_band_CheckSegments_L4 (LP_band_CheckSegments_L4 g g.N))] [] [] [] [] []
theorem ct_band_CheckSegments [Fuel] : NatTab (E_band_CheckSegments I_band_CheckSegments).C := ct_of (P := Tryz.prog) (T := T) (.cons ok_kit_IsKey (.cons ok_band_modesFault (.cons ok_kit_IsTime (.cons ok_band_compareSegments .nil)))) (by kernel_rfl)
noncomputable def cb_band_CheckSegments_L4 : Code := sub [1, 1, 0, 1, 0, 0] code_36
theorem s_band_CheckSegments_L4 (g : C_band_CheckSegments) (n : Nat) : StepOk (E_band_CheckSegments g) g.N cb_band_CheckSegments_L4 sh_band_CheckSegments_L4 (LP_band_CheckSegments_L4 g) n := by intro ps; unfold LP_band_CheckSegments_L4; split; exact .inr fun R K => (by kernel_rfl); exact .inl fun R K => rfl
theorem lf_band_CheckSegments_L4 [Fuel] : LoopFine (E_band_CheckSegments I_band_CheckSegments) NN cb_band_CheckSegments_L4 := fine_loop sh_band_CheckSegments_L4 (LP_band_CheckSegments_L4 I_band_CheckSegments) (by kernel_rfl) ct_band_CheckSegments (cuts0 (fun _ => rfl) (by kernel_rfl)) (fun ps R K => by unfold LP_band_CheckSegments_L4; split <;> (try unfold band_CheckSegments_L4) <;> rfl) (s_band_CheckSegments_L4 I_band_CheckSegments)
theorem sm_band_CheckSegments (g : C_band_CheckSegments) : Same (SS_band_CheckSegments (@band_CheckSegments_ g)) (abody (E_band_CheckSegments g) Tryz.f36 code_36 1 [] [.asis] g.N) := by intro args; unfold SS_band_CheckSegments; split; exact .inr fun R k => (by kernel_rfl); exact .inl fun R k => rfl
theorem ok_band_CheckSegments [Fuel] : Ok 36 (SS_band_CheckSegments (@band_CheckSegments _)) := okF_of std (.cons ok_kit_IsKey (.cons ok_band_modesFault (.cons ok_kit_IsTime (.cons ok_band_compareSegments .nil)))) ⟨rfl, rfl, by kernel_rfl, rfl, rfl, rfl⟩ (sm_band_CheckSegments I_band_CheckSegments) (cutsL (fun _ => rfl) (.cons lf_band_CheckSegments_L4 .nil) (by kernel_rfl)) Tryz.func36 (by kernel_rfl) (by kernel_rfl)
abbrev T_band_used : Type 1 := Int → Int → {R : Type} → (G_Row → Option R) → Option R
def band_used_ (g : Nat) (a1 a2 : Int) {R : Type} (k0 : G_Row → Option R) : Option R :=
 k0 (⟨(w64 (a1 - (w64 (Int.tdiv a2 2)))), (w64 ((w64 (a1 - (w64 (Int.tdiv a2 2)))) + a2))⟩ : G_Row)
noncomputable def band_used [Fuel] : T_band_used := @band_used_ NN
def SS_band_used (g : T_band_used) : Spec A := fun args => match args with | [.d (.int .i64 a1), .d (.int .i64 a2)] => fun k => g a1 a2 (fun z0 => k (.agg [.d (.int .i64 z0.f_From), .d (.int .i64 z0.f_To)]) [.undef, .undef]) | _ => fun _ => none
noncomputable def code_40 : Code := (Tryz.f40.body).getD .skip
noncomputable def E_band_used (g : Nat) : Env A := mkE [] [(4, [0])] [] [] [] [] [] [] [] []
theorem sm_band_used (g : Nat) : Same (SS_band_used (@band_used_ g)) (abody (E_band_used g) Tryz.f40 code_40 1 [] [.asis] g) := by intro args; unfold SS_band_used; split; exact .inr fun R k => (by kernel_rfl); exact .inl fun R k => rfl
theorem ok_band_used [Fuel] : Ok 40 (SS_band_used (@band_used _)) := okF_of std .nil ⟨rfl, rfl, by kernel_rfl, rfl, rfl, rfl⟩ (sm_band_used NN) (cuts0 (fun _ => rfl) (by kernel_rfl)) Tryz.func40 (by kernel_rfl) (by kernel_rfl)
end Go.Am
