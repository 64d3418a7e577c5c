/- The functions of the program as Lean functions, each shown to be what the code computes, part 6. No condition: lemmas for the claim. -/
import Derived.Test.YtfifleplhegkdaaGreatDoorF0
import Derived.Test.YtfifleplhegkdaaGreatDoorFSh
import Derived.Test.YtfifleplhegkdaaGreatDoorF1
import Derived.Test.YtfifleplhegkdaaGreatDoorF3
import Derived.Test.YtfifleplhegkdaaGreatDoorF4
import Derived.Test.YtfifleplhegkdaaGreatDoorF5
set_option linter.unusedVariables false
set_option maxRecDepth 100000
namespace Go.Am
open Go Go.Proofs
abbrev T_log_Compare : Type 1 := G_Contact → G_Contact → {R : Type} → (Int → Option R) → Option R
structure C_log_Compare where
 N : Nat
 cmp_Compare__int : T_cmp_Compare__int
 cmp_Or__int : T_cmp_Or__int
 strings_Compare : T_strings_Compare
def log_Compare_ (g : C_log_Compare) (a1 a2 : G_Contact) {R : Type} (k0 : Int → Option R) : Option R :=
 (g.cmp_Compare__int a1.f_At a2.f_At (fun r3 => (g.strings_Compare a1.f_Call a2.f_Call (fun r4 => (g.strings_Compare a1.f_Band a2.f_Band (fun r5 => (g.cmp_Compare__int a1.f_Mode a2.f_Mode (fun r6 => (g.cmp_Or__int [r3, r4, r5, r6] (fun r7 => k0 r7))))))))))
noncomputable def I_log_Compare [Fuel] : C_log_Compare := ⟨NN, @cmp_Compare__int _, @cmp_Or__int _, @strings_Compare _⟩
noncomputable def log_Compare [Fuel] : T_log_Compare := @log_Compare_ I_log_Compare
def SS_log_Compare (g : T_log_Compare) : Spec A := fun args => match args with | [.agg [.d (.int .i64 a1), .d (.int .i64 a2), .d (.str a3), .d (.str a4), .d (.int .i64 a5), .d (.int .i64 a6), .d (.str a7), .d (.str a8)], .agg [.d (.int .i64 a9), .d (.int .i64 a10), .d (.str a11), .d (.str a12), .d (.int .i64 a13), .d (.int .i64 a14), .d (.str a15), .d (.str a16)]] => fun k => g ⟨a1, a2, a3, a4, a5, a6, a7, a8⟩ ⟨a9, a10, a11, a12, a13, a14, a15, a16⟩ (fun z0 => k (.d (.int .i64 z0)) [.undef, .undef]) | _ => fun _ => none
noncomputable def code_56 : Code := (Tryz.f56.body).getD .skip
noncomputable def E_log_Compare (g : C_log_Compare) : Env A := mkE [(60, SS_cmp_Compare__int g.cmp_Compare__int), (88, SS_cmp_Or__int g.cmp_Or__int), (89, SS_strings_Compare g.strings_Compare)] [(2, [0]), (3, [1]), (25, [2])] [] [] [] [] [] [] [] []
theorem sm_log_Compare (g : C_log_Compare) : Same (SS_log_Compare (@log_Compare_ g)) (abody (E_log_Compare g) Tryz.f56 code_56 3 [] [.asis] g.N) := by intro args; unfold SS_log_Compare; split; exact .inr fun R k => (by kernel_rfl); exact .inl fun R k => rfl
theorem ok_log_Compare [Fuel] : Ok 56 (SS_log_Compare (@log_Compare _)) := okF_of std (.cons ok_cmp_Compare__int (.cons ok_cmp_Or__int (.cons ok_strings_Compare .nil))) ⟨rfl, rfl, by kernel_rfl, rfl, rfl, rfl⟩ (sm_log_Compare I_log_Compare) (cuts0 (fun _ => rfl) (by kernel_rfl)) Tryz.func56 (by kernel_rfl) (by kernel_rfl)
noncomputable def Ed_log_Compare (g : C_log_Compare) : Env A := mkED [(60, SS_cmp_Compare__int g.cmp_Compare__int), (88, SS_cmp_Or__int g.cmp_Or__int), (89, SS_strings_Compare g.strings_Compare)] [(2, [0]), (3, [1]), (25, [2])] [] [] [] [] [] [] [] []
theorem smd_log_Compare (g : C_log_Compare) : Same (SS_log_Compare (@log_Compare_ g)) (abody (Ed_log_Compare g) Tryz.f56 code_56 3 [] [.asis] g.N) := by intro args; unfold SS_log_Compare; split; exact .inr fun R k => (by kernel_rfl); exact .inl fun R k => rfl
theorem okd_log_Compare [Fuel] : OkD 56 (SS_log_Compare (@log_Compare _)) := okF_of stdD (.cons okd_cmp_Compare__int (.cons okd_cmp_Or__int (.cons okd_strings_Compare .nil))) ⟨rfl, rfl, by kernel_rfl, rfl, rfl, rfl⟩ (smd_log_Compare I_log_Compare) (cuts0 (fun _ => rfl) (by kernel_rfl)) Tryz.func56 (by kernel_rfl) (by kernel_rfl)
abbrev T_log_CheckLog : Type 1 := List G_Contact → {R : Type} → (Int → Option R) → Option R
structure C_log_CheckLog where
 N : Nat
 log_Compare : T_log_Compare
 log_CheckContact : T_log_CheckContact
def log_CheckLog_L4 (g : C_log_CheckLog) : Nat → List G_Contact → List G_Contact → Int → Int → {R : Type} → (Int → Option R) → Option R → Option R
 | 0, _, _, _, _, _, _, _ => none
 | n + 1, v2, v3, v4, v5, _, e0, e1 => (bif (decide (v5 < v4)) then (get_ v3 v5 fun x10 => (g.log_CheckContact x10 (fun r11 => (bif (r11 != 0) then e0 r11 else (bif (decide (v5 > 0)) then (get_ v2 (w64 (v5 - 1)) fun x12 => (g.log_Compare x12 x10 (fun r13 => (bif (decide (r13 ≥ 0)) then e0 7 else log_CheckLog_L4 g n v2 v3 v4 (w64 (v5 + 1)) e0 e1)))) else log_CheckLog_L4 g n v2 v3 v4 (w64 (v5 + 1)) e0 e1))))) else e1)
def log_CheckLog_ (g : C_log_CheckLog) (a1 : List G_Contact) {R : Type} (k0 : Int → Option R) : Option R :=
 (bif (decide ((a1.length : Int) > 2000)) then k0 2 else (log_CheckLog_L4 g g.N a1 a1 (a1.length : Int) 0 (fun e14 => k0 e14) (k0 0)))
noncomputable def I_log_CheckLog [Fuel] : C_log_CheckLog := ⟨NN, @log_Compare _, @log_CheckContact _⟩
noncomputable def log_CheckLog [Fuel] : T_log_CheckLog := @log_CheckLog_ I_log_CheckLog
def SS_log_CheckLog (g : T_log_CheckLog) : Spec A := fun args => match args with | [.d (.sl 56 a1)] => fun k => g a1 (fun z0 => k (.d (.int .i64 z0)) [.undef]) | _ => fun _ => none
def sh_log_CheckLog_L4 : SSt := mkSh 34 1 [(0, .sl 56), (9, .sl 56), (10, .int .i64), (11, .int .i64)] []
def LP_log_CheckLog_L4 (g : C_log_CheckLog) (n : Nat) : LPT A := fun ps => match ps with | [.d (.sl 56 p1), .d (.sl 56 p2), .d (.int .i64 p3), .d (.int .i64 p4)] => fun K => log_CheckLog_L4 g n p1 p2 p3 p4 (fun z0 => K .ret (mkSt 34 1 [(2, .d (.int .i64 z0))] [])) (K (.exit 0) (mkSt 34 1 [] [])) | _ => fun _ => none
noncomputable def code_51 : Code := (Tryz.f51.body).getD .skip
noncomputable def E_log_CheckLog (g : C_log_CheckLog) : Env A := mkE [(56, SS_log_Compare g.log_Compare), (84, SS_log_CheckContact g.log_CheckContact)] [(4, [0])] [(4, ⟨[0, 9, 10, 11], [], [], []⟩)] [(4, ⟨[2], [], [], []⟩)] [(4, pieceOf sh_log_CheckLog_L4 (LP_log_CheckLog_L4 g g.N))] [] [] [] [] []
theorem ct_log_CheckLog [Fuel] : NatTab (E_log_CheckLog I_log_CheckLog).C := ct_of (P := Tryz.prog) (T := T) (.cons ok_log_Compare (.cons ok_log_CheckContact .nil)) (by kernel_rfl)
noncomputable def cb_log_CheckLog_L4 : Code := sub [1, 1, 0, 1, 0, 0] code_51
theorem s_log_CheckLog_L4 (g : C_log_CheckLog) (n : Nat) : StepOk (E_log_CheckLog g) g.N cb_log_CheckLog_L4 sh_log_CheckLog_L4 (LP_log_CheckLog_L4 g) n := by intro ps; unfold LP_log_CheckLog_L4; split; exact .inr fun R K => (by kernel_rfl); exact .inl fun R K => rfl
theorem lf_log_CheckLog_L4 [Fuel] : LoopFine (E_log_CheckLog I_log_CheckLog) NN cb_log_CheckLog_L4 := fine_loop sh_log_CheckLog_L4 (LP_log_CheckLog_L4 I_log_CheckLog) (by kernel_rfl) ct_log_CheckLog (cuts0 (fun _ => rfl) (by kernel_rfl)) (fun ps R K => by unfold LP_log_CheckLog_L4; split <;> (try unfold log_CheckLog_L4) <;> rfl) (s_log_CheckLog_L4 I_log_CheckLog)
theorem sm_log_CheckLog (g : C_log_CheckLog) : Same (SS_log_CheckLog (@log_CheckLog_ g)) (abody (E_log_CheckLog g) Tryz.f51 code_51 1 [] [.asis] g.N) := by intro args; unfold SS_log_CheckLog; split; exact .inr fun R k => (by kernel_rfl); exact .inl fun R k => rfl
theorem ok_log_CheckLog [Fuel] : Ok 51 (SS_log_CheckLog (@log_CheckLog _)) := okF_of std (.cons ok_log_Compare (.cons ok_log_CheckContact .nil)) ⟨rfl, rfl, by kernel_rfl, rfl, rfl, rfl⟩ (sm_log_CheckLog I_log_CheckLog) (cutsL (fun _ => rfl) (.cons lf_log_CheckLog_L4 .nil) (by kernel_rfl)) Tryz.func51 (by kernel_rfl) (by kernel_rfl)
abbrev T_call_BaseOf : Type 1 := List UInt8 → {R : Type} → (List UInt8 → Option R) → Option R
structure C_call_BaseOf where
 N : Nat
 call_Parts : T_call_Parts
def call_BaseOf_ (g : C_call_BaseOf) (a1 : List UInt8) {R : Type} (k0 : List UInt8 → Option R) : Option R :=
 (g.call_Parts a1 (fun r2 r3 => k0 r2.f_Base))
noncomputable def I_call_BaseOf [Fuel] : C_call_BaseOf := ⟨NN, @call_Parts _⟩
noncomputable def call_BaseOf [Fuel] : T_call_BaseOf := @call_BaseOf_ I_call_BaseOf
def SS_call_BaseOf (g : T_call_BaseOf) : Spec A := fun args => match args with | [.d (.str a1)] => fun k => g a1 (fun z0 => k (.d (.str z0)) [.undef]) | _ => fun _ => none
noncomputable def code_99 : Code := (Tryz.f99.body).getD .skip
noncomputable def E_call_BaseOf (g : C_call_BaseOf) : Env A := mkE [(133, SS_call_Parts g.call_Parts)] [(3, [0])] [] [] [] [] [] [] [] []
theorem sm_call_BaseOf (g : C_call_BaseOf) : Same (SS_call_BaseOf (@call_BaseOf_ g)) (abody (E_call_BaseOf g) Tryz.f99 code_99 1 [] [.asis] g.N) := by intro args; unfold SS_call_BaseOf; split; exact .inr fun R k => (by kernel_rfl); exact .inl fun R k => rfl
theorem ok_call_BaseOf [Fuel] : Ok 99 (SS_call_BaseOf (@call_BaseOf _)) := okF_of std (.cons ok_call_Parts .nil) ⟨rfl, rfl, by kernel_rfl, rfl, rfl, rfl⟩ (sm_call_BaseOf I_call_BaseOf) (cuts0 (fun _ => rfl) (by kernel_rfl)) Tryz.func99 (by kernel_rfl) (by kernel_rfl)
abbrev T_log_dupes : Type 1 := List G_Contact → {R : Type} → (List Int → Option R) → Option R
structure C_log_dupes where
 N : Nat
 call_BaseOf : T_call_BaseOf
def log_dupes_L4 (g : C_log_dupes) : Nat → List G_Contact → Int → Int → List (G_log_worked × Bool) → List Int → {R : Type} → (List Int → Option R) → Option R
 | 0, _, _, _, _, _, _, _ => none
 | n + 1, v2, v3, v4, v5, v6, _, e0 => (bif (decide (v4 < v3)) then (get_ v2 v4 fun x9 => (g.call_BaseOf x9.f_Call (fun r10 => (bif ((mget_log_worked_bool (⟨r10, x9.f_Band, x9.f_Mode⟩ : G_log_worked) v5).getD false) then (bif (decide ((v6.length + [v4].length) * 8 ≤ roomBytes')) then log_dupes_L4 g n v2 v3 (w64 (v4 + 1)) (mset_log_worked_bool (⟨r10, x9.f_Band, x9.f_Mode⟩ : G_log_worked) true v5) (v6 ++ [v4]) e0 else none) else log_dupes_L4 g n v2 v3 (w64 (v4 + 1)) (mset_log_worked_bool (⟨r10, x9.f_Band, x9.f_Mode⟩ : G_log_worked) true v5) v6 e0)))) else e0 v6)
def log_dupes_ (g : C_log_dupes) (a1 : List G_Contact) {R : Type} (k0 : List Int → Option R) : Option R :=
 (log_dupes_L4 g g.N a1 (a1.length : Int) 0 [] [] (fun e11 => k0 e11))
noncomputable def I_log_dupes [Fuel] : C_log_dupes := ⟨NN, @call_BaseOf _⟩
noncomputable def log_dupes [Fuel] : T_log_dupes := @log_dupes_ I_log_dupes
def SS_log_dupes (g : T_log_dupes) : Spec A := fun args => match args with | [.d (.sl 56 a1)] => fun k => g a1 (fun z0 => k (.arr 3 z0) [.undef]) | _ => fun _ => none
def sh_log_dupes_L4 : SSt := mkSh 35 6 [(3, .mp 0), (4, .own 3 1), (9, .sl 56), (10, .int .i64), (11, .int .i64)] [(0, .mp 142 4), (1, .row 3)]
def LP_log_dupes_L4 (g : C_log_dupes) (n : Nat) : LPT A := fun ps => match ps with | [.d (.sl 56 p1), .d (.int .i64 p2), .d (.int .i64 p3), .mp 142 4 p4, .d (.sl 3 p5)] => fun K => log_dupes_L4 g n p1 p2 p3 p4 p5 (fun z0 => K (.exit 0) (mkSt 35 6 [(4, .own 3 1)] [(1, some (.row 3 z0))])) | _ => fun _ => none
noncomputable def code_66 : Code := (Tryz.f66.body).getD .skip
noncomputable def E_log_dupes (g : C_log_dupes) : Env A := mkE [(99, SS_call_BaseOf g.call_BaseOf)] [(6, [2]), (7, [3]), (8, [0]), (29, [4]), (30, [5])] [(4, ⟨[3, 4, 9, 10, 11], [(4, 3, 1)], [0], []⟩)] [(4, ⟨[4], [], [1], []⟩)] [(4, pieceOf sh_log_dupes_L4 (LP_log_dupes_L4 g g.N))] [] [] [] [] []
theorem ct_log_dupes [Fuel] : NatTab (E_log_dupes I_log_dupes).C := ct_of (P := Tryz.prog) (T := T) (.cons ok_call_BaseOf .nil) (by kernel_rfl)
noncomputable def cb_log_dupes_L4 : Code := sub [1, 1, 1, 0, 1, 0, 0] code_66
theorem s_log_dupes_L4 (g : C_log_dupes) (n : Nat) : StepOk (E_log_dupes g) g.N cb_log_dupes_L4 sh_log_dupes_L4 (LP_log_dupes_L4 g) n := by intro ps; unfold LP_log_dupes_L4; split; exact .inr fun R K => (by kernel_rfl); exact .inl fun R K => rfl
theorem lf_log_dupes_L4 [Fuel] : LoopFine (E_log_dupes I_log_dupes) NN cb_log_dupes_L4 := fine_loop sh_log_dupes_L4 (LP_log_dupes_L4 I_log_dupes) (by kernel_rfl) ct_log_dupes (cuts0 (fun _ => rfl) (by kernel_rfl)) (fun ps R K => by unfold LP_log_dupes_L4; split <;> (try unfold log_dupes_L4) <;> rfl) (s_log_dupes_L4 I_log_dupes)
theorem sm_log_dupes (g : C_log_dupes) : Same (SS_log_dupes (@log_dupes_ g)) (abody (E_log_dupes g) Tryz.f66 code_66 6 [] [.arr 3] g.N) := by intro args; unfold SS_log_dupes; split; exact .inr fun R k => (by kernel_rfl); exact .inl fun R k => rfl
theorem ok_log_dupes [Fuel] : Ok 66 (SS_log_dupes (@log_dupes _)) := okF_of std (.cons ok_call_BaseOf .nil) ⟨rfl, rfl, by kernel_rfl, rfl, rfl, rfl⟩ (sm_log_dupes I_log_dupes) (cutsL (fun _ => rfl) (.cons lf_log_dupes_L4 .nil) (by kernel_rfl)) Tryz.func66 (by kernel_rfl) (by kernel_rfl)
abbrev T_log_Dupes : Type 1 := List G_Contact → {R : Type} → (List Int → Int → Option R) → Option R
structure C_log_Dupes where
 N : Nat
 log_CheckLog : T_log_CheckLog
 log_dupes : T_log_dupes
def log_Dupes_ (g : C_log_Dupes) (a1 : List G_Contact) {R : Type} (k0 : List Int → Int → Option R) : Option R :=
 (g.log_CheckLog a1 (fun r2 => (bif (r2 != 0) then k0 [] r2 else (g.log_dupes a1 (fun r3 => k0 r3 0)))))
noncomputable def I_log_Dupes [Fuel] : C_log_Dupes := ⟨NN, @log_CheckLog _, @log_dupes _⟩
noncomputable def log_Dupes [Fuel] : T_log_Dupes := @log_Dupes_ I_log_Dupes
def SS_log_Dupes (g : T_log_Dupes) : Spec A := fun args => match args with | [.d (.sl 56 a1)] => fun k => g a1 (fun z0 z1 => k (.tup [.arr 3 z0, .d (.int .i64 z1)]) [.undef]) | _ => fun _ => none
noncomputable def code_35 : Code := (Tryz.f35.body).getD .skip
noncomputable def E_log_Dupes (g : C_log_Dupes) : Env A := mkE [(51, SS_log_CheckLog g.log_CheckLog), (66, SS_log_dupes g.log_dupes)] [(11, [0])] [] [] [] [] [] [] [] []
theorem sm_log_Dupes (g : C_log_Dupes) : Same (SS_log_Dupes (@log_Dupes_ g)) (abody (E_log_Dupes g) Tryz.f35 code_35 1 [] [.arr 3, .asis] g.N) := by intro args; unfold SS_log_Dupes; split; exact .inr fun R k => (by kernel_rfl); exact .inl fun R k => rfl
theorem ok_log_Dupes [Fuel] : Ok 35 (SS_log_Dupes (@log_Dupes _)) := okF_of std (.cons ok_log_CheckLog (.cons ok_log_dupes .nil)) ⟨rfl, rfl, by kernel_rfl, rfl, rfl, rfl⟩ (sm_log_Dupes I_log_Dupes) (cuts0 (fun _ => rfl) (by kernel_rfl)) Tryz.func35 (by kernel_rfl) (by kernel_rfl)
abbrev T_band_May_1 : Type 1 := G_Row → G_Row → {R : Type} → (Bool → G_Row → Option R) → Option R
def band_May_1_ (g : Nat) (a1 a2 : G_Row) {R : Type} (k0 : Bool → G_Row → Option R) : Option R :=
 (bif (decide (a1.f_From ≤ a2.f_From)) then k0 (decide (a2.f_To ≤ a1.f_To)) a2 else k0 false a2)
noncomputable def band_May_1 [Fuel] : T_band_May_1 := @band_May_1_ NN
def SS_band_May_1 (g : T_band_May_1) : Spec A := fun args => match args with | [.agg [.d (.int .i64 a1), .d (.int .i64 a2)], .box [.d (.int .i64 a3), .d (.int .i64 a4)]] => fun k => g ⟨a1, a2⟩ ⟨a3, a4⟩ (fun z0 z1 => k (.d (.bool z0)) [.undef, .box [.d (.int .i64 z1.f_From), .d (.int .i64 z1.f_To)]]) | _ => fun _ => none
noncomputable def code_44 : Code := (Tryz.f44.body).getD .skip
noncomputable def E_band_May_1 (g : Nat) : Env A := mkE [] [(2, [1])] [] [] [] [] [] [] [] [1]
theorem sm_band_May_1 (g : Nat) : Same (SS_band_May_1 (@band_May_1_ g)) (abody (E_band_May_1 g) Tryz.f44 code_44 2 [0] [.asis] g) := by intro args; unfold SS_band_May_1; split; exact .inr fun R k => (by kernel_rfl); exact .inl fun R k => rfl
theorem ok_band_May_1 [Fuel] : Ok 44 (SS_band_May_1 (@band_May_1 _)) := okF_of std .nil ⟨rfl, rfl, by kernel_rfl, rfl, rfl, rfl⟩ (sm_band_May_1 NN) (cuts0 (fun _ => rfl) (by kernel_rfl)) Tryz.func44 (by kernel_rfl) (by kernel_rfl)
abbrev T_slices_IndexFunc__Row_band_May_1 : Type 1 := List G_Row → G_Row → {R : Type} → (Int → G_Row → Option R) → Option R
structure C_slices_IndexFunc__Row_band_May_1 where
 N : Nat
 band_May_1 : T_band_May_1
def slices_IndexFunc__Row_band_May_1_L2 (g : C_slices_IndexFunc__Row_band_May_1) : Nat → List G_Row → Int → Int → G_Row → {R : Type} → (Int → G_Row → Option R) → (G_Row → Option R) → Option R
 | 0, _, _, _, _, _, _, _ => none
 | n + 1, v3, v4, v5, v6, _, e0, e1 => (bif (decide (v5 < v4)) then (get_ v3 v5 fun x10 => (g.band_May_1 x10 v6 (fun r11 r12 => (bif r11 then e0 v5 r12 else slices_IndexFunc__Row_band_May_1_L2 g n v3 v4 (w64 (v5 + 1)) r12 e0 e1)))) else e1 v6)
def slices_IndexFunc__Row_band_May_1_ (g : C_slices_IndexFunc__Row_band_May_1) (a1 : List G_Row) (a2 : G_Row) {R : Type} (k0 : Int → G_Row → Option R) : Option R :=
 (slices_IndexFunc__Row_band_May_1_L2 g g.N a1 (a1.length : Int) 0 a2 (fun e13 e14 => k0 e13 e14) (fun e15 => k0 (-1) e15))
noncomputable def I_slices_IndexFunc__Row_band_May_1 [Fuel] : C_slices_IndexFunc__Row_band_May_1 := ⟨NN, @band_May_1 _⟩
noncomputable def slices_IndexFunc__Row_band_May_1 [Fuel] : T_slices_IndexFunc__Row_band_May_1 := @slices_IndexFunc__Row_band_May_1_ I_slices_IndexFunc__Row_band_May_1
def SS_slices_IndexFunc__Row_band_May_1 (g : T_slices_IndexFunc__Row_band_May_1) : Spec A := fun args => match args with | [.d (.sl 39 a1), .fn 44 [.box [.d (.int .i64 a2), .d (.int .i64 a3)]]] => fun k => g a1 ⟨a2, a3⟩ (fun z0 z1 => k (.d (.int .i64 z0)) [.undef, .fn 44 [.box [.d (.int .i64 z1.f_From), .d (.int .i64 z1.f_To)]]]) | _ => fun _ => none
def sh_slices_IndexFunc__Row_band_May_1_L2 : SSt := mkSh 19 1 [(0, .sl 39), (1, .fn 44 [.ptr 0 0]), (7, .int .i64), (8, .int .i64)] [(0, .box [.int .i64, .int .i64])]
def LP_slices_IndexFunc__Row_band_May_1_L2 (g : C_slices_IndexFunc__Row_band_May_1) (n : Nat) : LPT A := fun ps => match ps with | [.d (.sl 39 p1), .d (.int .i64 p2), .d (.int .i64 p3), .d (.int .i64 p4), .d (.int .i64 p5)] => fun K => slices_IndexFunc__Row_band_May_1_L2 g n p1 p2 p3 ⟨p4, p5⟩ (fun z0 z1 => K .ret (mkSt 19 1 [(1, .fn 44 [.ptr 0 0]), (4, .d (.int .i64 z0))] [(0, some (.box [.d (.int .i64 z1.f_From), .d (.int .i64 z1.f_To)]))])) (fun z0 => K (.exit 0) (mkSt 19 1 [(1, .fn 44 [.ptr 0 0])] [(0, some (.box [.d (.int .i64 z0.f_From), .d (.int .i64 z0.f_To)]))])) | _ => fun _ => none
noncomputable def code_45 : Code := (Tryz.f45.body).getD .skip
noncomputable def E_slices_IndexFunc__Row_band_May_1 (g : C_slices_IndexFunc__Row_band_May_1) : Env A := mkE [(44, SS_band_May_1 g.band_May_1)] [] [(2, ⟨[0, 1, 7, 8], [], [0], []⟩)] [(2, ⟨[1, 4], [], [0], []⟩)] [(2, pieceOf sh_slices_IndexFunc__Row_band_May_1_L2 (LP_slices_IndexFunc__Row_band_May_1_L2 g g.N))] [] [] [] [] [1]
theorem ct_slices_IndexFunc__Row_band_May_1 [Fuel] : NatTab (E_slices_IndexFunc__Row_band_May_1 I_slices_IndexFunc__Row_band_May_1).C := ct_of (P := Tryz.prog) (T := T) (.cons ok_band_May_1 .nil) (by kernel_rfl)
noncomputable def cb_slices_IndexFunc__Row_band_May_1_L2 : Code := sub [1, 0, 1, 0, 0] code_45
theorem s_slices_IndexFunc__Row_band_May_1_L2 (g : C_slices_IndexFunc__Row_band_May_1) (n : Nat) : StepOk (E_slices_IndexFunc__Row_band_May_1 g) g.N cb_slices_IndexFunc__Row_band_May_1_L2 sh_slices_IndexFunc__Row_band_May_1_L2 (LP_slices_IndexFunc__Row_band_May_1_L2 g) n := by intro ps; unfold LP_slices_IndexFunc__Row_band_May_1_L2; split; exact .inr fun R K => (by kernel_rfl); exact .inl fun R K => rfl
theorem lf_slices_IndexFunc__Row_band_May_1_L2 [Fuel] : LoopFine (E_slices_IndexFunc__Row_band_May_1 I_slices_IndexFunc__Row_band_May_1) NN cb_slices_IndexFunc__Row_band_May_1_L2 := fine_loop sh_slices_IndexFunc__Row_band_May_1_L2 (LP_slices_IndexFunc__Row_band_May_1_L2 I_slices_IndexFunc__Row_band_May_1) (by kernel_rfl) ct_slices_IndexFunc__Row_band_May_1 (cuts0 (fun _ => rfl) (by kernel_rfl)) (fun ps R K => by unfold LP_slices_IndexFunc__Row_band_May_1_L2; split <;> (try unfold slices_IndexFunc__Row_band_May_1_L2) <;> rfl) (s_slices_IndexFunc__Row_band_May_1_L2 I_slices_IndexFunc__Row_band_May_1)
theorem sm_slices_IndexFunc__Row_band_May_1 (g : C_slices_IndexFunc__Row_band_May_1) : Same (SS_slices_IndexFunc__Row_band_May_1 (@slices_IndexFunc__Row_band_May_1_ g)) (abody (E_slices_IndexFunc__Row_band_May_1 g) Tryz.f45 code_45 1 [0] [.asis] g.N) := by intro args; unfold SS_slices_IndexFunc__Row_band_May_1; split; exact .inr fun R k => (by kernel_rfl); exact .inl fun R k => rfl
theorem ok_slices_IndexFunc__Row_band_May_1 [Fuel] : Ok 45 (SS_slices_IndexFunc__Row_band_May_1 (@slices_IndexFunc__Row_band_May_1 _)) := okF_of std (.cons ok_band_May_1 .nil) ⟨rfl, rfl, by kernel_rfl, rfl, rfl, rfl⟩ (sm_slices_IndexFunc__Row_band_May_1 I_slices_IndexFunc__Row_band_May_1) (cutsL (fun _ => rfl) (.cons lf_slices_IndexFunc__Row_band_May_1_L2 .nil) (by kernel_rfl)) Tryz.func45 (by kernel_rfl) (by kernel_rfl)
abbrev T_slices_ContainsFunc__Row_band_May_1 : Type 1 := List G_Row → G_Row → {R : Type} → (Bool → G_Row → Option R) → Option R
structure C_slices_ContainsFunc__Row_band_May_1 where
 N : Nat
 slices_IndexFunc__Row_band_May_1 : T_slices_IndexFunc__Row_band_May_1
def slices_ContainsFunc__Row_band_May_1_ (g : C_slices_ContainsFunc__Row_band_May_1) (a1 : List G_Row) (a2 : G_Row) {R : Type} (k0 : Bool → G_Row → Option R) : Option R :=
 (g.slices_IndexFunc__Row_band_May_1 a1 a2 (fun r3 r4 => k0 (decide (r3 ≥ 0)) r4))
noncomputable def I_slices_ContainsFunc__Row_band_May_1 [Fuel] : C_slices_ContainsFunc__Row_band_May_1 := ⟨NN, @slices_IndexFunc__Row_band_May_1 _⟩
noncomputable def slices_ContainsFunc__Row_band_May_1 [Fuel] : T_slices_ContainsFunc__Row_band_May_1 := @slices_ContainsFunc__Row_band_May_1_ I_slices_ContainsFunc__Row_band_May_1
def SS_slices_ContainsFunc__Row_band_May_1 (g : T_slices_ContainsFunc__Row_band_May_1) : Spec A := fun args => match args with | [.d (.sl 39 a1), .fn 44 [.box [.d (.int .i64 a2), .d (.int .i64 a3)]]] => fun k => g a1 ⟨a2, a3⟩ (fun z0 z1 => k (.d (.bool z0)) [.undef, .fn 44 [.box [.d (.int .i64 z1.f_From), .d (.int .i64 z1.f_To)]]]) | _ => fun _ => none
noncomputable def code_12 : Code := (Tryz.f12.body).getD .skip
noncomputable def E_slices_ContainsFunc__Row_band_May_1 (g : C_slices_ContainsFunc__Row_band_May_1) : Env A := mkE [(45, SS_slices_IndexFunc__Row_band_May_1 g.slices_IndexFunc__Row_band_May_1)] [] [] [] [] [] [] [] [(45, 0)] [1]
theorem sm_slices_ContainsFunc__Row_band_May_1 (g : C_slices_ContainsFunc__Row_band_May_1) : Same (SS_slices_ContainsFunc__Row_band_May_1 (@slices_ContainsFunc__Row_band_May_1_ g)) (abody (E_slices_ContainsFunc__Row_band_May_1 g) Tryz.f12 code_12 1 [0] [.asis] g.N) := by intro args; unfold SS_slices_ContainsFunc__Row_band_May_1; split; exact .inr fun R k => (by kernel_rfl); exact .inl fun R k => rfl
theorem ok_slices_ContainsFunc__Row_band_May_1 [Fuel] : Ok 12 (SS_slices_ContainsFunc__Row_band_May_1 (@slices_ContainsFunc__Row_band_May_1 _)) := okF_of std (.cons ok_slices_IndexFunc__Row_band_May_1 .nil) ⟨rfl, rfl, by kernel_rfl, rfl, rfl, rfl⟩ (sm_slices_ContainsFunc__Row_band_May_1 I_slices_ContainsFunc__Row_band_May_1) (cuts0 (fun _ => rfl) (by kernel_rfl)) Tryz.func12 (by kernel_rfl) (by kernel_rfl)
abbrev T_band_May : Type 1 := List G_Segment → List UInt8 → Int → Int → Int → Int → {R : Type} → (Bool → Int → Option R) → Option R
structure C_band_May where
 N : Nat
 slices_ContainsFunc__Row_band_May_1 : T_slices_ContainsFunc__Row_band_May_1
 kit_Outside : T_kit_Outside
 band_CheckSegments : T_band_CheckSegments
 kit_IsKey : T_kit_IsKey
 kit_IsMode : T_kit_IsMode
 kit_IsMoment : T_kit_IsMoment
 band_used : T_band_used
 band_permitted : T_band_permitted
def band_May_ (g : C_band_May) (a1 : List G_Segment) (a2 : List UInt8) (a3 a4 a5 a6 : Int) {R : Type} (k0 : Bool → Int → Option R) : Option R :=
 (g.band_CheckSegments a1 (fun r7 => (bif (r7 != 0) then k0 false r7 else (g.kit_IsKey a2 (fun r8 => (bif (!r8) then k0 false 5 else (g.kit_Outside a3 0 30000000000 (fun r9 => (bif r9 then k0 false 1 else (g.kit_Outside a4 1 100000 (fun r10 => (bif r10 then k0 false 1 else (g.kit_IsMode a5 (fun r11 => (bif (!r11) then k0 false 4 else (g.kit_IsMoment a6 (fun r12 => (bif (!r12) then k0 false 1 else (g.band_used a3 a4 (fun r13 => (g.band_permitted a1 a2 a5 a6 (fun r14 => (g.slices_ContainsFunc__Row_band_May_1 r14 r13 (fun r15 r16 => k0 r15 0))))))))))))))))))))))))
noncomputable def I_band_May [Fuel] : C_band_May := ⟨NN, @slices_ContainsFunc__Row_band_May_1 _, @kit_Outside _, @band_CheckSegments _, @kit_IsKey _, @kit_IsMode _, @kit_IsMoment _, @band_used _, @band_permitted _⟩
noncomputable def band_May [Fuel] : T_band_May := @band_May_ I_band_May
def SS_band_May (g : T_band_May) : Spec A := fun args => match args with | [.d (.sl 66 a1), .d (.str a2), .d (.int .i64 a3), .d (.int .i64 a4), .d (.int .i64 a5), .d (.int .i64 a6)] => fun k => g a1 a2 a3 a4 a5 a6 (fun z0 z1 => k (.tup [.d (.bool z0), .d (.int .i64 z1)]) [.undef, .undef, .undef, .undef, .undef, .undef]) | _ => fun _ => none
noncomputable def code_11 : Code := (Tryz.f11.body).getD .skip
noncomputable def E_band_May (g : C_band_May) : Env A := mkE [(12, SS_slices_ContainsFunc__Row_band_May_1 g.slices_ContainsFunc__Row_band_May_1), (33, SS_kit_Outside g.kit_Outside), (38, SS_band_CheckSegments g.band_CheckSegments), (39, SS_kit_IsKey g.kit_IsKey), (40, SS_kit_IsMode g.kit_IsMode), (41, SS_kit_IsMoment g.kit_IsMoment), (42, SS_band_used g.band_used), (43, SS_band_permitted g.band_permitted)] [(15, [0]), (47, [1])] [] [] [] [] [] [] [] []
theorem sm_band_May (g : C_band_May) : Same (SS_band_May (@band_May_ g)) (abody (E_band_May g) Tryz.f11 code_11 2 [] [.asis, .asis] g.N) := by intro args; unfold SS_band_May; split; exact .inr fun R k => (by kernel_rfl); exact .inl fun R k => rfl
theorem ok_band_May [Fuel] : Ok 11 (SS_band_May (@band_May _)) := okF_of std (.cons ok_slices_ContainsFunc__Row_band_May_1 (.cons ok_kit_Outside (.cons ok_band_CheckSegments (.cons ok_kit_IsKey (.cons ok_kit_IsMode (.cons ok_kit_IsMoment (.cons ok_band_used (.cons ok_band_permitted .nil)))))))) ⟨rfl, rfl, by kernel_rfl, rfl, rfl, rfl⟩ (sm_band_May I_band_May) (cuts0 (fun _ => rfl) (by kernel_rfl)) Tryz.func11 (by kernel_rfl) (by kernel_rfl)
abbrev T_club_isSquare : Type 1 := List UInt8 → {R : Type} → (Bool → Option R) → Option R
def club_isSquare_L4 (g : Nat) : Nat → List UInt8 → Int → Int → {R : Type} → (Bool → Option R) → Option R → Option R
 | 0, _, _, _, _, _, _ => none
 | n + 1, v2, v3, v4, _, e0, e1 => (bif (decide (v4 < v3)) then (bif ((w64 (Int.tdiv v4 2)) == 1) then (get_ v2 v4 fun x11 => (bif (decide ((x11.toNat : Int) < 48)) then e0 false else (get_ v2 v4 fun x12 => (bif (decide ((x12.toNat : Int) > 57)) then e0 false else club_isSquare_L4 g n v2 v3 (w64 (v4 + 1)) e0 e1)))) else (bif ((w64 (Int.tdiv v4 2)) == 2) then (get_ v2 v4 fun x13 => (bif (decide ((x13.toNat : Int) < 97)) then e0 false else (get_ v2 v4 fun x14 => (bif (decide ((x14.toNat : Int) > 120)) then e0 false else club_isSquare_L4 g n v2 v3 (w64 (v4 + 1)) e0 e1)))) else (get_ v2 v4 fun x15 => (bif (decide ((x15.toNat : Int) < 97)) then e0 false else (get_ v2 v4 fun x16 => (bif (decide ((x16.toNat : Int) > 114)) then e0 false else club_isSquare_L4 g n v2 v3 (w64 (v4 + 1)) e0 e1)))))) else e1)
def club_isSquare_ (g : Nat) (a1 : List UInt8) {R : Type} (k0 : Bool → Option R) : Option R :=
 (bif ((a1.length : Int) != 2) then (bif ((a1.length : Int) != 4) then (bif ((a1.length : Int) != 6) then k0 false else (club_isSquare_L4 g g a1 (a1.length : Int) 0 (fun e17 => k0 e17) (k0 true))) else (club_isSquare_L4 g g a1 (a1.length : Int) 0 (fun e18 => k0 e18) (k0 true))) else (club_isSquare_L4 g g a1 (a1.length : Int) 0 (fun e19 => k0 e19) (k0 true)))
noncomputable def club_isSquare [Fuel] : T_club_isSquare := @club_isSquare_ NN
def SS_club_isSquare (g : T_club_isSquare) : Spec A := fun args => match args with | [.d (.str a1)] => fun k => g a1 (fun z0 => k (.d (.bool z0)) [.undef]) | _ => fun _ => none
def sh_club_isSquare_L4 : SSt := mkSh 43 0 [(0, .str), (20, .int .i64), (21, .int .i64)] []
def LP_club_isSquare_L4 (g : Nat) (n : Nat) : LPT A := fun ps => match ps with | [.d (.str p1), .d (.int .i64 p2), .d (.int .i64 p3)] => fun K => club_isSquare_L4 g n p1 p2 p3 (fun z0 => K .ret (mkSt 43 0 [(2, .d (.bool z0))] [])) (K (.exit 0) (mkSt 43 0 [] [])) | _ => fun _ => none
noncomputable def code_135 : Code := (Tryz.f135.body).getD .skip
noncomputable def E_club_isSquare (g : Nat) : Env A := mkE [] [] [(4, ⟨[0, 20, 21], [], [], []⟩)] [(4, ⟨[2], [], [], []⟩)] [(4, pieceOf sh_club_isSquare_L4 (LP_club_isSquare_L4 g g))] [] [] [] [] []
theorem ct_club_isSquare [Fuel] : NatTab (E_club_isSquare NN).C := ct_of (P := Tryz.prog) (T := T) .nil (by kernel_rfl)
noncomputable def cb_club_isSquare_L4 : Code := sub [1, 1, 0, 1, 0, 0] code_135
theorem s_club_isSquare_L4 (g : Nat) (n : Nat) : StepOk (E_club_isSquare g) g cb_club_isSquare_L4 sh_club_isSquare_L4 (LP_club_isSquare_L4 g) n := by intro ps; unfold LP_club_isSquare_L4; split; exact .inr fun R K => (by kernel_rfl); exact .inl fun R K => rfl
theorem lf_club_isSquare_L4 [Fuel] : LoopFine (E_club_isSquare NN) NN cb_club_isSquare_L4 := fine_loop sh_club_isSquare_L4 (LP_club_isSquare_L4 NN) (by kernel_rfl) ct_club_isSquare (cuts0 (fun _ => rfl) (by kernel_rfl)) (fun ps R K => by unfold LP_club_isSquare_L4; split <;> (try unfold club_isSquare_L4) <;> rfl) (s_club_isSquare_L4 NN)
theorem sm_club_isSquare (g : Nat) : Same (SS_club_isSquare (@club_isSquare_ g)) (abody (E_club_isSquare g) Tryz.f135 code_135 0 [] [.asis] g) := by intro args; unfold SS_club_isSquare; split; exact .inr fun R k => (by kernel_rfl); exact .inl fun R k => rfl
theorem ok_club_isSquare [Fuel] : Ok 135 (SS_club_isSquare (@club_isSquare _)) := okF_of std .nil ⟨rfl, rfl, by kernel_rfl, rfl, rfl, rfl⟩ (sm_club_isSquare NN) (cutsL (fun _ => rfl) (.cons lf_club_isSquare_L4 .nil) (by kernel_rfl)) Tryz.func135 (by kernel_rfl) (by kernel_rfl)
abbrev T_club_isLocator : Type 1 := List UInt8 → {R : Type} → (Bool → Option R) → Option R
structure C_club_isLocator where
 N : Nat
 club_isSquare : T_club_isSquare
def club_isLocator_ (g : C_club_isLocator) (a1 : List UInt8) {R : Type} (k0 : Bool → Option R) : Option R :=
 (bif ((a1.length : Int) == 6) then (g.club_isSquare a1 (fun r2 => k0 r2)) else k0 false)
noncomputable def I_club_isLocator [Fuel] : C_club_isLocator := ⟨NN, @club_isSquare _⟩
noncomputable def club_isLocator [Fuel] : T_club_isLocator := @club_isLocator_ I_club_isLocator
def SS_club_isLocator (g : T_club_isLocator) : Spec A := fun args => match args with | [.d (.str a1)] => fun k => g a1 (fun z0 => k (.d (.bool z0)) [.undef]) | _ => fun _ => none
noncomputable def code_100 : Code := (Tryz.f100.body).getD .skip
noncomputable def E_club_isLocator (g : C_club_isLocator) : Env A := mkE [(135, SS_club_isSquare g.club_isSquare)] [] [] [] [] [] [] [] [] []
theorem sm_club_isLocator (g : C_club_isLocator) : Same (SS_club_isLocator (@club_isLocator_ g)) (abody (E_club_isLocator g) Tryz.f100 code_100 0 [] [.asis] g.N) := by intro args; unfold SS_club_isLocator; split; exact .inr fun R k => (by kernel_rfl); exact .inl fun R k => rfl
theorem ok_club_isLocator [Fuel] : Ok 100 (SS_club_isLocator (@club_isLocator _)) := okF_of std (.cons ok_club_isSquare .nil) ⟨rfl, rfl, by kernel_rfl, rfl, rfl, rfl⟩ (sm_club_isLocator I_club_isLocator) (cuts0 (fun _ => rfl) (by kernel_rfl)) Tryz.func100 (by kernel_rfl) (by kernel_rfl)
abbrev T_club_CheckEntrants : Type 1 := List G_Entrant → {R : Type} → (Int → Option R) → Option R
structure C_club_CheckEntrants where
 N : Nat
 kit_Outside : T_kit_Outside
 kit_IsKey : T_kit_IsKey
 cmp_Or__int : T_cmp_Or__int
 strings_Compare : T_strings_Compare
 call_Is : T_call_Is
 club_isLocator : T_club_isLocator
def club_CheckEntrants_L4 (g : C_club_CheckEntrants) : Nat → List G_Entrant → List G_Entrant → Int → Int → {R : Type} → (Int → Option R) → Option R → Option R
 | 0, _, _, _, _, _, _, _ => none
 | n + 1, v2, v3, v4, v5, _, e0, e1 => (bif (decide (v5 < v4)) then (get_ v3 v5 fun x21 => (g.call_Is x21.f_Call (fun r22 => (bif (!r22) then e0 3 else (g.kit_IsKey x21.f_Category (fun r23 => (bif (!r23) then e0 5 else (g.kit_Outside x21.f_Points 0 1000000000000 (fun r24 => (bif r24 then e0 1 else (bif (!(x21.f_Locator == [])) then (g.club_isLocator x21.f_Locator (fun r25 => (bif (!r25) then e0 3 else (bif (decide (v5 > 0)) then (get_ v2 (w64 (v5 - 1)) fun x26 => (get_ v2 (w64 (v5 - 1)) fun x27 => (g.strings_Compare x26.f_Category x21.f_Category (fun r28 => (g.strings_Compare x27.f_Call x21.f_Call (fun r29 => (g.cmp_Or__int [r28, r29] (fun r30 => (bif (decide (r30 ≥ 0)) then e0 7 else club_CheckEntrants_L4 g n v2 v3 v4 (w64 (v5 + 1)) e0 e1))))))))) else club_CheckEntrants_L4 g n v2 v3 v4 (w64 (v5 + 1)) e0 e1)))) else (bif (decide (v5 > 0)) then (get_ v2 (w64 (v5 - 1)) fun x31 => (get_ v2 (w64 (v5 - 1)) fun x32 => (g.strings_Compare x31.f_Category x21.f_Category (fun r33 => (g.strings_Compare x32.f_Call x21.f_Call (fun r34 => (g.cmp_Or__int [r33, r34] (fun r35 => (bif (decide (r35 ≥ 0)) then e0 7 else club_CheckEntrants_L4 g n v2 v3 v4 (w64 (v5 + 1)) e0 e1))))))))) else club_CheckEntrants_L4 g n v2 v3 v4 (w64 (v5 + 1)) e0 e1)))))))))))) else e1)
def club_CheckEntrants_ (g : C_club_CheckEntrants) (a1 : List G_Entrant) {R : Type} (k0 : Int → Option R) : Option R :=
 (bif (decide ((a1.length : Int) > 500)) then k0 2 else (club_CheckEntrants_L4 g g.N a1 a1 (a1.length : Int) 0 (fun e36 => k0 e36) (k0 0)))
noncomputable def I_club_CheckEntrants [Fuel] : C_club_CheckEntrants := ⟨NN, @kit_Outside _, @kit_IsKey _, @cmp_Or__int _, @strings_Compare _, @call_Is _, @club_isLocator _⟩
noncomputable def club_CheckEntrants [Fuel] : T_club_CheckEntrants := @club_CheckEntrants_ I_club_CheckEntrants
def SS_club_CheckEntrants (g : T_club_CheckEntrants) : Spec A := fun args => match args with | [.d (.sl 83 a1)] => fun k => g a1 (fun z0 => k (.d (.int .i64 z0)) [.undef]) | _ => fun _ => none
def sh_club_CheckEntrants_L4 : SSt := mkSh 66 2 [(0, .sl 83), (8, .sl 83), (9, .int .i64), (10, .int .i64)] []
def LP_club_CheckEntrants_L4 (g : C_club_CheckEntrants) (n : Nat) : LPT A := fun ps => match ps with | [.d (.sl 83 p1), .d (.sl 83 p2), .d (.int .i64 p3), .d (.int .i64 p4)] => fun K => club_CheckEntrants_L4 g n p1 p2 p3 p4 (fun z0 => K .ret (mkSt 66 2 [(2, .d (.int .i64 z0))] [])) (K (.exit 0) (mkSt 66 2 [] [])) | _ => fun _ => none
noncomputable def code_67 : Code := (Tryz.f67.body).getD .skip
noncomputable def E_club_CheckEntrants (g : C_club_CheckEntrants) : Env A := mkE [(33, SS_kit_Outside g.kit_Outside), (39, SS_kit_IsKey g.kit_IsKey), (88, SS_cmp_Or__int g.cmp_Or__int), (89, SS_strings_Compare g.strings_Compare), (95, SS_call_Is g.call_Is), (100, SS_club_isLocator g.club_isLocator)] [(4, [0]), (61, [1])] [(4, ⟨[0, 8, 9, 10], [], [], []⟩)] [(4, ⟨[2], [], [], []⟩)] [(4, pieceOf sh_club_CheckEntrants_L4 (LP_club_CheckEntrants_L4 g g.N))] [] [] [] [] []
theorem ct_club_CheckEntrants [Fuel] : NatTab (E_club_CheckEntrants I_club_CheckEntrants).C := ct_of (P := Tryz.prog) (T := T) (.cons ok_kit_Outside (.cons ok_kit_IsKey (.cons ok_cmp_Or__int (.cons ok_strings_Compare (.cons ok_call_Is (.cons ok_club_isLocator .nil)))))) (by kernel_rfl)
noncomputable def cb_club_CheckEntrants_L4 : Code := sub [1, 1, 0, 1, 0, 0] code_67
theorem s_club_CheckEntrants_L4 (g : C_club_CheckEntrants) (n : Nat) : StepOk (E_club_CheckEntrants g) g.N cb_club_CheckEntrants_L4 sh_club_CheckEntrants_L4 (LP_club_CheckEntrants_L4 g) n := by intro ps; unfold LP_club_CheckEntrants_L4; split; exact .inr fun R K => (by kernel_rfl); exact .inl fun R K => rfl
theorem lf_club_CheckEntrants_L4 [Fuel] : LoopFine (E_club_CheckEntrants I_club_CheckEntrants) NN cb_club_CheckEntrants_L4 := fine_loop sh_club_CheckEntrants_L4 (LP_club_CheckEntrants_L4 I_club_CheckEntrants) (by kernel_rfl) ct_club_CheckEntrants (cuts0 (fun _ => rfl) (by kernel_rfl)) (fun ps R K => by unfold LP_club_CheckEntrants_L4; split <;> (try unfold club_CheckEntrants_L4) <;> rfl) (s_club_CheckEntrants_L4 I_club_CheckEntrants)
theorem sm_club_CheckEntrants (g : C_club_CheckEntrants) : Same (SS_club_CheckEntrants (@club_CheckEntrants_ g)) (abody (E_club_CheckEntrants g) Tryz.f67 code_67 2 [] [.asis] g.N) := by intro args; unfold SS_club_CheckEntrants; split; exact .inr fun R k => (by kernel_rfl); exact .inl fun R k => rfl
theorem ok_club_CheckEntrants [Fuel] : Ok 67 (SS_club_CheckEntrants (@club_CheckEntrants _)) := okF_of std (.cons ok_kit_Outside (.cons ok_kit_IsKey (.cons ok_cmp_Or__int (.cons ok_strings_Compare (.cons ok_call_Is (.cons ok_club_isLocator .nil)))))) ⟨rfl, rfl, by kernel_rfl, rfl, rfl, rfl⟩ (sm_club_CheckEntrants I_club_CheckEntrants) (cutsL (fun _ => rfl) (.cons lf_club_CheckEntrants_L4 .nil) (by kernel_rfl)) Tryz.func67 (by kernel_rfl) (by kernel_rfl)
abbrev T_club_ranked_1 : Type 1 := G_Place → G_Place → {R : Type} → (Int → Option R) → Option R
structure C_club_ranked_1 where
 N : Nat
 cmp_Compare__int : T_cmp_Compare__int
 cmp_Or__int : T_cmp_Or__int
 strings_Compare : T_strings_Compare
def club_ranked_1_ (g : C_club_ranked_1) (a1 a2 : G_Place) {R : Type} (k0 : Int → Option R) : Option R :=
 (g.cmp_Compare__int a2.f_Points a1.f_Points (fun r3 => (g.strings_Compare a1.f_Key a2.f_Key (fun r4 => (g.cmp_Or__int [r3, r4] (fun r5 => k0 r5))))))
noncomputable def I_club_ranked_1 [Fuel] : C_club_ranked_1 := ⟨NN, @cmp_Compare__int _, @cmp_Or__int _, @strings_Compare _⟩
noncomputable def club_ranked_1 [Fuel] : T_club_ranked_1 := @club_ranked_1_ I_club_ranked_1
def SS_club_ranked_1 (g : T_club_ranked_1) : Spec A := fun args => match args with | [.agg [.d (.int .i64 a1), .d (.int .i64 a2), .d (.str a3)], .agg [.d (.int .i64 a4), .d (.int .i64 a5), .d (.str a6)]] => fun k => g ⟨a1, a2, a3⟩ ⟨a4, a5, a6⟩ (fun z0 => k (.d (.int .i64 z0)) [.undef, .undef]) | _ => fun _ => none
noncomputable def code_102 : Code := (Tryz.f102.body).getD .skip
noncomputable def E_club_ranked_1 (g : C_club_ranked_1) : Env A := mkE [(60, SS_cmp_Compare__int g.cmp_Compare__int), (88, SS_cmp_Or__int g.cmp_Or__int), (89, SS_strings_Compare g.strings_Compare)] [(2, [0]), (3, [1]), (15, [2])] [] [] [] [] [] [] [] []
theorem sm_club_ranked_1 (g : C_club_ranked_1) : Same (SS_club_ranked_1 (@club_ranked_1_ g)) (abody (E_club_ranked_1 g) Tryz.f102 code_102 3 [] [.asis] g.N) := by intro args; unfold SS_club_ranked_1; split; exact .inr fun R k => (by kernel_rfl); exact .inl fun R k => rfl
theorem ok_club_ranked_1 [Fuel] : Ok 102 (SS_club_ranked_1 (@club_ranked_1 _)) := okF_of std (.cons ok_cmp_Compare__int (.cons ok_cmp_Or__int (.cons ok_strings_Compare .nil))) ⟨rfl, rfl, by kernel_rfl, rfl, rfl, rfl⟩ (sm_club_ranked_1 I_club_ranked_1) (cuts0 (fun _ => rfl) (by kernel_rfl)) Tryz.func102 (by kernel_rfl) (by kernel_rfl)
noncomputable def Ed_club_ranked_1 (g : C_club_ranked_1) : Env A := mkED [(60, SS_cmp_Compare__int g.cmp_Compare__int), (88, SS_cmp_Or__int g.cmp_Or__int), (89, SS_strings_Compare g.strings_Compare)] [(2, [0]), (3, [1]), (15, [2])] [] [] [] [] [] [] [] []
theorem smd_club_ranked_1 (g : C_club_ranked_1) : Same (SS_club_ranked_1 (@club_ranked_1_ g)) (abody (Ed_club_ranked_1 g) Tryz.f102 code_102 3 [] [.asis] g.N) := by intro args; unfold SS_club_ranked_1; split; exact .inr fun R k => (by kernel_rfl); exact .inl fun R k => rfl
theorem okd_club_ranked_1 [Fuel] : OkD 102 (SS_club_ranked_1 (@club_ranked_1 _)) := okF_of stdD (.cons okd_cmp_Compare__int (.cons okd_cmp_Or__int (.cons okd_strings_Compare .nil))) ⟨rfl, rfl, by kernel_rfl, rfl, rfl, rfl⟩ (smd_club_ranked_1 I_club_ranked_1) (cuts0 (fun _ => rfl) (by kernel_rfl)) Tryz.func102 (by kernel_rfl) (by kernel_rfl)
abbrev T_slices_SortFunc__Place_club_ranked_1 : Type 1 := List G_Place → {R : Type} → (List G_Place → Option R) → Option R
noncomputable def slices_SortFunc__Place_club_ranked_1 [Fuel] : T_slices_SortFunc__Place_club_ranked_1 := @X_sortf G_Place (@club_ranked_1 _)
def SS_slices_SortFunc__Place_club_ranked_1 (g : T_slices_SortFunc__Place_club_ranked_1) : Spec A := fun args => match args with | [.arr 114 a1, .fn 102 []] => fun k => g a1 (fun z => k (.tup []) [.arr 114 z, .fn 102 []]) | _ => fun _ => none
theorem h1_slices_SortFunc__Place_club_ranked_1 [Fuel] (xs : List (A 114)) (R : Type) (k : IV A → List (IV A) → Option R) : SS_slices_SortFunc__Place_club_ranked_1 (@slices_SortFunc__Place_club_ranked_1 _) [.arr 114 xs, .fn 102 []] k = X_sortf (α := A 114) (@club_ranked_1 _) xs (fun z => k (.tup []) [.arr 114 z, .fn 102 []]) := by kernel_rfl
theorem h2_slices_SortFunc__Place_club_ranked_1 [Fuel] (args : List (IV A)) (R : Type) (k : IV A → List (IV A) → Option R) (h : ∀ xs : List (A 114), args ≠ [.arr 114 xs, .fn 102 []]) : SS_slices_SortFunc__Place_club_ranked_1 (@slices_SortFunc__Place_club_ranked_1 _) args k = none := by unfold SS_slices_SortFunc__Place_club_ranked_1; split; exact absurd rfl (h _); rfl
theorem hc_slices_SortFunc__Place_club_ranked_1 [Fuel] (x y : A 114) (R : Type) (k : Int → Option R) : callOf T (SS_club_ranked_1 (@club_ranked_1 _)) 114 x y k = @club_ranked_1 _ x y R k := by kernel_rfl
theorem hs_slices_SortFunc__Place_club_ranked_1 (x : G_Place) : (enc_e114 x).all scal = true := rfl
theorem ok_slices_SortFunc__Place_club_ranked_1 [Fuel] : Ok 101 (SS_slices_SortFunc__Place_club_ranked_1 (@slices_SortFunc__Place_club_ranked_1 _)) := ⟨sortf_sound (tyOk Tryz.prog) (e := 114) Tryz.sortf101 Tryz.isAgg114 Tryz.sizeOf114 (fun x d hd => List.all_eq_true.1 (hs_slices_SortFunc__Place_club_ranked_1 x) d hd) hc_slices_SortFunc__Place_club_ranked_1 okd_club_ranked_1.fs okd_club_ranked_1.en h1_slices_SortFunc__Place_club_ranked_1 h2_slices_SortFunc__Place_club_ranked_1, sortf_na (e := 114) h1_slices_SortFunc__Place_club_ranked_1 h2_slices_SortFunc__Place_club_ranked_1, enters_of (fn := Tryz.f101) Tryz.func101 (by kernel_rfl) (by kernel_rfl)⟩
end Go.Am
