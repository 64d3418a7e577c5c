/- The functions of the program as Lean functions, each shown to be what the code computes, part 4. No condition: lemmas for the claim. -/
import Derived.Test.YtocbeijefjbpgaaGreatDoorF0
import Derived.Test.YtocbeijefjbpgaaGreatDoorFSh
import Derived.Test.YtocbeijefjbpgaaGreatDoorF3
set_option linter.unusedVariables false
set_option maxRecDepth 100000
namespace Go.Am
open Go Go.Proofs
abbrev T_strings_Compare : Type 1 := List UInt8 → List UInt8 → {R : Type} → (Int → Option R) → Option R
def strings_Compare [Fuel] : T_strings_Compare := @X_cmp
def SS_strings_Compare (g : T_strings_Compare) : Spec A := SSX_cmp g
theorem ok_strings_Compare [Fuel] : Ok 55 (SS_strings_Compare (@strings_Compare _)) := ⟨ssx_cmp_sound (cmp_sound (Any.strings_Compare Tryz.lays106)), ssx_cmp_nat, enters_of (fn := Tryz.f55) Tryz.func55 (by kernel_rfl) (by kernel_rfl)⟩
theorem okd_strings_Compare [Fuel] : OkD 55 (SS_strings_Compare (@strings_Compare _)) := ⟨ssx_cmp_sound (cmp_sound (Any.strings_Compare Tryz.lays106)), ssx_cmp_nat, enters_of (fn := Tryz.f55) Tryz.func55 (by kernel_rfl) (by kernel_rfl)⟩
abbrev T_cmp_Or__int : Type 1 := List Int → {R : Type} → (Int → Option R) → Option R
def cmp_Or__int_L3 (g : Nat) : Nat → Int → List Int → Int → Int → {R : Type} → (Int → Int → Option R) → (Int → Option R) → Option R
 | 0, _, _, _, _, _, _, _ => none
 | n + 1, v2, v3, v4, v5, _, e0, e1 => (bif (decide (v5 < v4)) then (get_ v3 v5 fun x7 => (bif (x7 != v2) then e0 x7 v2 else cmp_Or__int_L3 g n v2 v3 v4 (w64 (v5 + 1)) e0 e1)) else e1 v2)
def cmp_Or__int_ (g : Nat) (a1 : List Int) {R : Type} (k0 : Int → Option R) : Option R :=
 (cmp_Or__int_L3 g g 0 a1 (a1.length : Int) 0 (fun e8 e9 => k0 e8) (fun e10 => k0 e10))
noncomputable def cmp_Or__int [Fuel] : T_cmp_Or__int := @cmp_Or__int_ NN
def SS_cmp_Or__int (g : T_cmp_Or__int) : Spec A := fun args => match args with | [.d (.sl 3 a1)] => fun k => g a1 (fun z0 => k (.d (.int .i64 z0)) [.undef]) | _ => fun _ => none
def sh_cmp_Or__int_L3 : SSt := mkSh 18 0 [(3, .int .i64), (6, .sl 3), (7, .int .i64), (8, .int .i64)] []
def LP_cmp_Or__int_L3 (g : Nat) (n : Nat) : LPT A := fun ps => match ps with | [.d (.int .i64 p1), .d (.sl 3 p2), .d (.int .i64 p3), .d (.int .i64 p4)] => fun K => cmp_Or__int_L3 g n p1 p2 p3 p4 (fun z0 z1 => K .ret (mkSt 18 0 [(2, .d (.int .i64 z0)), (3, .d (.int .i64 z1))] [])) (fun z0 => K (.exit 0) (mkSt 18 0 [(3, .d (.int .i64 z0))] [])) | _ => fun _ => none
noncomputable def code_54 : Code := (Tryz.f54.body).getD .skip
noncomputable def E_cmp_Or__int (g : Nat) : Env A := mkE [] [] [(3, ⟨[3, 6, 7, 8], [], [], [], [], []⟩)] [(3, ⟨[2, 3], [], [], [], [], []⟩)] [(3, pieceOf sh_cmp_Or__int_L3 (LP_cmp_Or__int_L3 g g))] [] [] [] [] []
theorem ct_cmp_Or__int [Fuel] : NatTab (E_cmp_Or__int NN).C := ct_of (P := Tryz.prog) (T := T) .nil (by kernel_rfl)
noncomputable def cb_cmp_Or__int_L3 : Code := sub [1, 1, 0, 1, 0, 0] code_54
theorem s_cmp_Or__int_L3 (g : Nat) (n : Nat) : StepOk (E_cmp_Or__int g) g cb_cmp_Or__int_L3 sh_cmp_Or__int_L3 (LP_cmp_Or__int_L3 g) n := by intro ps; unfold LP_cmp_Or__int_L3; split; exact .inr fun R K => (by kernel_rfl); exact .inl fun R K => rfl
theorem lf_cmp_Or__int_L3 [Fuel] : LoopFine (E_cmp_Or__int NN) NN cb_cmp_Or__int_L3 := fine_loop sh_cmp_Or__int_L3 (LP_cmp_Or__int_L3 NN) (by kernel_rfl) ct_cmp_Or__int (cuts0 (fun _ => rfl) (by kernel_rfl)) (fun ps R K => by unfold LP_cmp_Or__int_L3; split <;> (try unfold cmp_Or__int_L3) <;> rfl) (s_cmp_Or__int_L3 NN)
theorem sm_cmp_Or__int (g : Nat) : Same (SS_cmp_Or__int (@cmp_Or__int_ g)) (abody (E_cmp_Or__int g) Tryz.f54 code_54 0 [] [.asis] g) := by intro args; unfold SS_cmp_Or__int; split; exact .inr fun R k => (by kernel_rfl); exact .inl fun R k => rfl
theorem ok_cmp_Or__int [Fuel] : Ok 54 (SS_cmp_Or__int (@cmp_Or__int _)) := okF_of std .nil ⟨rfl, rfl, by kernel_rfl, rfl, rfl, rfl⟩ (sm_cmp_Or__int NN) (cutsL (fun _ => rfl) (.cons lf_cmp_Or__int_L3 .nil) (by kernel_rfl)) Tryz.func54 (by kernel_rfl) (by kernel_rfl)
noncomputable def Ed_cmp_Or__int (g : Nat) : Env A := mkED [] [] [(3, ⟨[3, 6, 7, 8], [], [], [], [], []⟩)] [(3, ⟨[2, 3], [], [], [], [], []⟩)] [(3, pieceOf sh_cmp_Or__int_L3 (LP_cmp_Or__int_L3 g g))] [] [] [] [] []
theorem ctd_cmp_Or__int [Fuel] : NatTab (Ed_cmp_Or__int NN).C := ct_of (P := Tryz.prog) (T := TD) .nil (by kernel_rfl)
theorem sd_cmp_Or__int_L3 (g : Nat) (n : Nat) : StepOk (Ed_cmp_Or__int g) g cb_cmp_Or__int_L3 sh_cmp_Or__int_L3 (LP_cmp_Or__int_L3 g) n := by intro ps; unfold LP_cmp_Or__int_L3; split; exact .inr fun R K => (by kernel_rfl); exact .inl fun R K => rfl
theorem lfd_cmp_Or__int_L3 [Fuel] : LoopFine (Ed_cmp_Or__int NN) NN cb_cmp_Or__int_L3 := fine_loop sh_cmp_Or__int_L3 (LP_cmp_Or__int_L3 NN) (by kernel_rfl) ctd_cmp_Or__int (cuts0 (fun _ => rfl) (by kernel_rfl)) (fun ps R K => by unfold LP_cmp_Or__int_L3; split <;> (try unfold cmp_Or__int_L3) <;> rfl) (sd_cmp_Or__int_L3 NN)
theorem smd_cmp_Or__int (g : Nat) : Same (SS_cmp_Or__int (@cmp_Or__int_ g)) (abody (Ed_cmp_Or__int g) Tryz.f54 code_54 0 [] [.asis] g) := by intro args; unfold SS_cmp_Or__int; split; exact .inr fun R k => (by kernel_rfl); exact .inl fun R k => rfl
theorem okd_cmp_Or__int [Fuel] : OkD 54 (SS_cmp_Or__int (@cmp_Or__int _)) := okF_of stdD .nil ⟨rfl, rfl, by kernel_rfl, rfl, rfl, rfl⟩ (smd_cmp_Or__int NN) (cutsL (fun _ => rfl) (.cons lfd_cmp_Or__int_L3 .nil) (by kernel_rfl)) Tryz.func54 (by kernel_rfl) (by kernel_rfl)
abbrev T_log_Compare : Type 1 := G_Contact → G_Contact → {R : Type} → (Int → Option R) → Option R
structure C_log_Compare where
 N : Nat
 cmp_Or__int : T_cmp_Or__int
 strings_Compare : T_strings_Compare
 cmp_Compare__int : T_cmp_Compare__int
def log_Compare_ (g : C_log_Compare) (a1 a2 : G_Contact) {R : Type} (k0 : Int → Option R) : Option R :=
 (g.cmp_Compare__int a1.f_At a2.f_At (fun r3 => (g.strings_Compare a1.f_Call a2.f_Call (fun r4 => (g.strings_Compare a1.f_Band a2.f_Band (fun r5 => (g.cmp_Compare__int a1.f_Mode a2.f_Mode (fun r6 => (g.cmp_Or__int [r3, r4, r5, r6] (fun r7 => k0 r7))))))))))
noncomputable def I_log_Compare [Fuel] : C_log_Compare := ⟨NN, @cmp_Or__int _, @strings_Compare _, @cmp_Compare__int _⟩
noncomputable def log_Compare [Fuel] : T_log_Compare := @log_Compare_ I_log_Compare
def SS_log_Compare (g : T_log_Compare) : Spec A := fun args => match args with | [.agg [.d (.int .i64 a1), .d (.int .i64 a2), .d (.str a3), .d (.str a4), .d (.int .i64 a5), .d (.int .i64 a6), .d (.str a7), .d (.str a8)], .agg [.d (.int .i64 a9), .d (.int .i64 a10), .d (.str a11), .d (.str a12), .d (.int .i64 a13), .d (.int .i64 a14), .d (.str a15), .d (.str a16)]] => fun k => g ⟨a1, a2, a3, a4, a5, a6, a7, a8⟩ ⟨a9, a10, a11, a12, a13, a14, a15, a16⟩ (fun z0 => k (.d (.int .i64 z0)) [.undef, .undef]) | _ => fun _ => none
noncomputable def code_69 : Code := (Tryz.f69.body).getD .skip
noncomputable def E_log_Compare (g : C_log_Compare) : Env A := mkE [(54, SS_cmp_Or__int g.cmp_Or__int), (55, SS_strings_Compare g.strings_Compare), (60, SS_cmp_Compare__int g.cmp_Compare__int)] [(2, [0]), (3, [1]), (25, [2])] [] [] [] [] [] [] [] []
theorem sm_log_Compare (g : C_log_Compare) : Same (SS_log_Compare (@log_Compare_ g)) (abody (E_log_Compare g) Tryz.f69 code_69 3 [] [.asis] g.N) := by intro args; unfold SS_log_Compare; split; exact .inr fun R k => (by kernel_rfl); exact .inl fun R k => rfl
theorem ok_log_Compare [Fuel] : Ok 69 (SS_log_Compare (@log_Compare _)) := okF_of std (.cons ok_cmp_Or__int (.cons ok_strings_Compare (.cons ok_cmp_Compare__int .nil))) ⟨rfl, rfl, by kernel_rfl, rfl, rfl, rfl⟩ (sm_log_Compare I_log_Compare) (cuts0 (fun _ => rfl) (by kernel_rfl)) Tryz.func69 (by kernel_rfl) (by kernel_rfl)
noncomputable def Ed_log_Compare (g : C_log_Compare) : Env A := mkED [(54, SS_cmp_Or__int g.cmp_Or__int), (55, SS_strings_Compare g.strings_Compare), (60, SS_cmp_Compare__int g.cmp_Compare__int)] [(2, [0]), (3, [1]), (25, [2])] [] [] [] [] [] [] [] []
theorem smd_log_Compare (g : C_log_Compare) : Same (SS_log_Compare (@log_Compare_ g)) (abody (Ed_log_Compare g) Tryz.f69 code_69 3 [] [.asis] g.N) := by intro args; unfold SS_log_Compare; split; exact .inr fun R k => (by kernel_rfl); exact .inl fun R k => rfl
theorem okd_log_Compare [Fuel] : OkD 69 (SS_log_Compare (@log_Compare _)) := okF_of stdD (.cons okd_cmp_Or__int (.cons okd_strings_Compare (.cons okd_cmp_Compare__int .nil))) ⟨rfl, rfl, by kernel_rfl, rfl, rfl, rfl⟩ (smd_log_Compare I_log_Compare) (cuts0 (fun _ => rfl) (by kernel_rfl)) Tryz.func69 (by kernel_rfl) (by kernel_rfl)
abbrev T_log_CheckLog : Type 1 := List G_Contact → {R : Type} → (Int → Option R) → Option R
structure C_log_CheckLog where
 N : Nat
 log_CheckContact : T_log_CheckContact
 log_Compare : T_log_Compare
def log_CheckLog_L4 (g : C_log_CheckLog) : Nat → List G_Contact → List G_Contact → Int → Int → {R : Type} → (Int → Option R) → Option R → Option R
 | 0, _, _, _, _, _, _, _ => none
 | n + 1, v2, v3, v4, v5, _, e0, e1 => (bif (decide (v5 < v4)) then (get_ v3 v5 fun x10 => (g.log_CheckContact x10 (fun r11 => (bif (r11 != 0) then e0 r11 else (bif (decide (v5 > 0)) then (get_ v2 (w64 (v5 - 1)) fun x12 => (g.log_Compare x12 x10 (fun r13 => (bif (decide (r13 ≥ 0)) then e0 7 else log_CheckLog_L4 g n v2 v3 v4 (w64 (v5 + 1)) e0 e1)))) else log_CheckLog_L4 g n v2 v3 v4 (w64 (v5 + 1)) e0 e1))))) else e1)
def log_CheckLog_ (g : C_log_CheckLog) (a1 : List G_Contact) {R : Type} (k0 : Int → Option R) : Option R :=
 (bif (decide ((a1.length : Int) > 2000)) then k0 2 else (log_CheckLog_L4 g g.N a1 a1 (a1.length : Int) 0 (fun e14 => k0 e14) (k0 0)))
noncomputable def I_log_CheckLog [Fuel] : C_log_CheckLog := ⟨NN, @log_CheckContact _, @log_Compare _⟩
noncomputable def log_CheckLog [Fuel] : T_log_CheckLog := @log_CheckLog_ I_log_CheckLog
def SS_log_CheckLog (g : T_log_CheckLog) : Spec A := fun args => match args with | [.d (.sl 50 a1)] => fun k => g a1 (fun z0 => k (.d (.int .i64 z0)) [.undef]) | _ => fun _ => none
def sh_log_CheckLog_L4 : SSt := mkSh 34 1 [(0, .sl 50), (9, .sl 50), (10, .int .i64), (11, .int .i64)] []
def LP_log_CheckLog_L4 (g : C_log_CheckLog) (n : Nat) : LPT A := fun ps => match ps with | [.d (.sl 50 p1), .d (.sl 50 p2), .d (.int .i64 p3), .d (.int .i64 p4)] => fun K => log_CheckLog_L4 g n p1 p2 p3 p4 (fun z0 => K .ret (mkSt 34 1 [(2, .d (.int .i64 z0))] [])) (K (.exit 0) (mkSt 34 1 [] [])) | _ => fun _ => none
noncomputable def code_35 : Code := (Tryz.f35.body).getD .skip
noncomputable def E_log_CheckLog (g : C_log_CheckLog) : Env A := mkE [(68, SS_log_CheckContact g.log_CheckContact), (69, SS_log_Compare g.log_Compare)] [(4, [0])] [(4, ⟨[0, 9, 10, 11], [], [], [], [], []⟩)] [(4, ⟨[2], [], [], [], [], []⟩)] [(4, pieceOf sh_log_CheckLog_L4 (LP_log_CheckLog_L4 g g.N))] [] [] [] [] []
theorem ct_log_CheckLog [Fuel] : NatTab (E_log_CheckLog I_log_CheckLog).C := ct_of (P := Tryz.prog) (T := T) (.cons ok_log_CheckContact (.cons ok_log_Compare .nil)) (by kernel_rfl)
noncomputable def cb_log_CheckLog_L4 : Code := sub [1, 1, 0, 1, 0, 0] code_35
theorem s_log_CheckLog_L4 (g : C_log_CheckLog) (n : Nat) : StepOk (E_log_CheckLog g) g.N cb_log_CheckLog_L4 sh_log_CheckLog_L4 (LP_log_CheckLog_L4 g) n := by intro ps; unfold LP_log_CheckLog_L4; split; exact .inr fun R K => (by kernel_rfl); exact .inl fun R K => rfl
theorem lf_log_CheckLog_L4 [Fuel] : LoopFine (E_log_CheckLog I_log_CheckLog) NN cb_log_CheckLog_L4 := fine_loop sh_log_CheckLog_L4 (LP_log_CheckLog_L4 I_log_CheckLog) (by kernel_rfl) ct_log_CheckLog (cuts0 (fun _ => rfl) (by kernel_rfl)) (fun ps R K => by unfold LP_log_CheckLog_L4; split <;> (try unfold log_CheckLog_L4) <;> rfl) (s_log_CheckLog_L4 I_log_CheckLog)
theorem sm_log_CheckLog (g : C_log_CheckLog) : Same (SS_log_CheckLog (@log_CheckLog_ g)) (abody (E_log_CheckLog g) Tryz.f35 code_35 1 [] [.asis] g.N) := by intro args; unfold SS_log_CheckLog; split; exact .inr fun R k => (by kernel_rfl); exact .inl fun R k => rfl
theorem ok_log_CheckLog [Fuel] : Ok 35 (SS_log_CheckLog (@log_CheckLog _)) := okF_of std (.cons ok_log_CheckContact (.cons ok_log_Compare .nil)) ⟨rfl, rfl, by kernel_rfl, rfl, rfl, rfl⟩ (sm_log_CheckLog I_log_CheckLog) (cutsL (fun _ => rfl) (.cons lf_log_CheckLog_L4 .nil) (by kernel_rfl)) Tryz.func35 (by kernel_rfl) (by kernel_rfl)
abbrev T_call_BaseOf : Type 1 := List UInt8 → {R : Type} → (List UInt8 → Option R) → Option R
structure C_call_BaseOf where
 N : Nat
 call_Parts : T_call_Parts
def call_BaseOf_ (g : C_call_BaseOf) (a1 : List UInt8) {R : Type} (k0 : List UInt8 → Option R) : Option R :=
 (g.call_Parts a1 (fun r2 r3 => k0 r2.f_Base))
noncomputable def I_call_BaseOf [Fuel] : C_call_BaseOf := ⟨NN, @call_Parts _⟩
noncomputable def call_BaseOf [Fuel] : T_call_BaseOf := @call_BaseOf_ I_call_BaseOf
def SS_call_BaseOf (g : T_call_BaseOf) : Spec A := fun args => match args with | [.d (.str a1)] => fun k => g a1 (fun z0 => k (.d (.str z0)) [.undef]) | _ => fun _ => none
noncomputable def code_77 : Code := (Tryz.f77.body).getD .skip
noncomputable def E_call_BaseOf (g : C_call_BaseOf) : Env A := mkE [(88, SS_call_Parts g.call_Parts)] [(3, [0])] [] [] [] [] [] [] [] []
theorem sm_call_BaseOf (g : C_call_BaseOf) : Same (SS_call_BaseOf (@call_BaseOf_ g)) (abody (E_call_BaseOf g) Tryz.f77 code_77 1 [] [.asis] g.N) := by intro args; unfold SS_call_BaseOf; split; exact .inr fun R k => (by kernel_rfl); exact .inl fun R k => rfl
theorem ok_call_BaseOf [Fuel] : Ok 77 (SS_call_BaseOf (@call_BaseOf _)) := okF_of std (.cons ok_call_Parts .nil) ⟨rfl, rfl, by kernel_rfl, rfl, rfl, rfl⟩ (sm_call_BaseOf I_call_BaseOf) (cuts0 (fun _ => rfl) (by kernel_rfl)) Tryz.func77 (by kernel_rfl) (by kernel_rfl)
abbrev T_log_dupes : Type 1 := List G_Contact → {R : Type} → (List Int → Option R) → Option R
structure C_log_dupes where
 N : Nat
 call_BaseOf : T_call_BaseOf
def log_dupes_L4 (g : C_log_dupes) : Nat → List G_Contact → Int → Int → List (G_log_worked × Bool) → List Int → {R : Type} → (List Int → Option R) → Option R
 | 0, _, _, _, _, _, _, _ => none
 | n + 1, v2, v3, v4, v5, v6, _, e0 => (bif (decide (v4 < v3)) then (get_ v2 v4 fun x9 => (g.call_BaseOf x9.f_Call (fun r10 => (bif ((mget_log_worked_bool (⟨r10, x9.f_Band, x9.f_Mode⟩ : G_log_worked) v5).getD false) then (bif (decide ((v6.length + [v4].length) * 8 ≤ roomBytes')) then log_dupes_L4 g n v2 v3 (w64 (v4 + 1)) (mset_log_worked_bool (⟨r10, x9.f_Band, x9.f_Mode⟩ : G_log_worked) true v5) (v6 ++ [v4]) e0 else none) else log_dupes_L4 g n v2 v3 (w64 (v4 + 1)) (mset_log_worked_bool (⟨r10, x9.f_Band, x9.f_Mode⟩ : G_log_worked) true v5) v6 e0)))) else e0 v6)
def log_dupes_ (g : C_log_dupes) (a1 : List G_Contact) {R : Type} (k0 : List Int → Option R) : Option R :=
 (log_dupes_L4 g g.N a1 (a1.length : Int) 0 [] [] (fun e11 => k0 e11))
noncomputable def I_log_dupes [Fuel] : C_log_dupes := ⟨NN, @call_BaseOf _⟩
noncomputable def log_dupes [Fuel] : T_log_dupes := @log_dupes_ I_log_dupes
def SS_log_dupes (g : T_log_dupes) : Spec A := fun args => match args with | [.d (.sl 50 a1)] => fun k => g a1 (fun z0 => k (.arr 3 z0) [.undef]) | _ => fun _ => none
def sh_log_dupes_L4 : SSt := mkSh 35 6 [(3, .mp 0), (4, .own 3 1), (9, .sl 50), (10, .int .i64), (11, .int .i64)] [(0, .mp 116 4), (1, .row 3)]
def LP_log_dupes_L4 (g : C_log_dupes) (n : Nat) : LPT A := fun ps => match ps with | [.d (.sl 50 p1), .d (.int .i64 p2), .d (.int .i64 p3), .mp 116 4 p4, .d (.sl 3 p5)] => fun K => log_dupes_L4 g n p1 p2 p3 p4 p5 (fun z0 => K (.exit 0) (mkSt 35 6 [(4, .own 3 1)] [(1, some (.row 3 z0))])) | _ => fun _ => none
noncomputable def code_42 : Code := (Tryz.f42.body).getD .skip
noncomputable def E_log_dupes (g : C_log_dupes) : Env A := mkE [(77, SS_call_BaseOf g.call_BaseOf)] [(6, [2]), (7, [3]), (8, [0]), (29, [4]), (30, [5])] [(4, ⟨[3, 4, 9, 10, 11], [(4, 3, 1)], [0], [], [], []⟩)] [(4, ⟨[4], [], [1], [], [], []⟩)] [(4, pieceOf sh_log_dupes_L4 (LP_log_dupes_L4 g g.N))] [] [] [] [] []
theorem ct_log_dupes [Fuel] : NatTab (E_log_dupes I_log_dupes).C := ct_of (P := Tryz.prog) (T := T) (.cons ok_call_BaseOf .nil) (by kernel_rfl)
noncomputable def cb_log_dupes_L4 : Code := sub [1, 1, 1, 0, 1, 0, 0] code_42
theorem s_log_dupes_L4 (g : C_log_dupes) (n : Nat) : StepOk (E_log_dupes g) g.N cb_log_dupes_L4 sh_log_dupes_L4 (LP_log_dupes_L4 g) n := by intro ps; unfold LP_log_dupes_L4; split; exact .inr fun R K => (by kernel_rfl); exact .inl fun R K => rfl
theorem lf_log_dupes_L4 [Fuel] : LoopFine (E_log_dupes I_log_dupes) NN cb_log_dupes_L4 := fine_loop sh_log_dupes_L4 (LP_log_dupes_L4 I_log_dupes) (by kernel_rfl) ct_log_dupes (cuts0 (fun _ => rfl) (by kernel_rfl)) (fun ps R K => by unfold LP_log_dupes_L4; split <;> (try unfold log_dupes_L4) <;> rfl) (s_log_dupes_L4 I_log_dupes)
theorem sm_log_dupes (g : C_log_dupes) : Same (SS_log_dupes (@log_dupes_ g)) (abody (E_log_dupes g) Tryz.f42 code_42 6 [] [.arr 3] g.N) := by intro args; unfold SS_log_dupes; split; exact .inr fun R k => (by kernel_rfl); exact .inl fun R k => rfl
theorem ok_log_dupes [Fuel] : Ok 42 (SS_log_dupes (@log_dupes _)) := okF_of std (.cons ok_call_BaseOf .nil) ⟨rfl, rfl, by kernel_rfl, rfl, rfl, rfl⟩ (sm_log_dupes I_log_dupes) (cutsL (fun _ => rfl) (.cons lf_log_dupes_L4 .nil) (by kernel_rfl)) Tryz.func42 (by kernel_rfl) (by kernel_rfl)
abbrev T_log_Dupes : Type 1 := List G_Contact → {R : Type} → (List Int → Int → Option R) → Option R
structure C_log_Dupes where
 N : Nat
 log_CheckLog : T_log_CheckLog
 log_dupes : T_log_dupes
def log_Dupes_ (g : C_log_Dupes) (a1 : List G_Contact) {R : Type} (k0 : List Int → Int → Option R) : Option R :=
 (g.log_CheckLog a1 (fun r2 => (bif (r2 != 0) then k0 [] r2 else (g.log_dupes a1 (fun r3 => k0 r3 0)))))
noncomputable def I_log_Dupes [Fuel] : C_log_Dupes := ⟨NN, @log_CheckLog _, @log_dupes _⟩
noncomputable def log_Dupes [Fuel] : T_log_Dupes := @log_Dupes_ I_log_Dupes
def SS_log_Dupes (g : T_log_Dupes) : Spec A := fun args => match args with | [.d (.sl 50 a1)] => fun k => g a1 (fun z0 z1 => k (.tup [.arr 3 z0, .d (.int .i64 z1)]) [.undef]) | _ => fun _ => none
noncomputable def code_24 : Code := (Tryz.f24.body).getD .skip
noncomputable def E_log_Dupes (g : C_log_Dupes) : Env A := mkE [(35, SS_log_CheckLog g.log_CheckLog), (42, SS_log_dupes g.log_dupes)] [(11, [0])] [] [] [] [] [] [] [] []
theorem sm_log_Dupes (g : C_log_Dupes) : Same (SS_log_Dupes (@log_Dupes_ g)) (abody (E_log_Dupes g) Tryz.f24 code_24 1 [] [.arr 3, .asis] g.N) := by intro args; unfold SS_log_Dupes; split; exact .inr fun R k => (by kernel_rfl); exact .inl fun R k => rfl
theorem ok_log_Dupes [Fuel] : Ok 24 (SS_log_Dupes (@log_Dupes _)) := okF_of std (.cons ok_log_CheckLog (.cons ok_log_dupes .nil)) ⟨rfl, rfl, by kernel_rfl, rfl, rfl, rfl⟩ (sm_log_Dupes I_log_Dupes) (cuts0 (fun _ => rfl) (by kernel_rfl)) Tryz.func24 (by kernel_rfl) (by kernel_rfl)
abbrev T_band_modesFault : Type 1 := List Int → {R : Type} → (Int → Option R) → Option R
structure C_band_modesFault where
 N : Nat
 kit_IsMode : T_kit_IsMode
def band_modesFault_L4 (g : C_band_modesFault) : Nat → List Int → List Int → Int → Int → {R : Type} → (Int → Option R) → Option R → Option R
 | 0, _, _, _, _, _, _, _ => none
 | n + 1, v2, v3, v4, v5, _, e0, e1 => (bif (decide (v5 < v4)) then (get_ v3 v5 fun x9 => (g.kit_IsMode x9 (fun r10 => (bif (!r10) then e0 4 else (bif (decide (v5 > 0)) then (get_ v2 (w64 (v5 - 1)) fun x11 => (bif (decide (x9 ≤ x11)) then e0 7 else band_modesFault_L4 g n v2 v3 v4 (w64 (v5 + 1)) e0 e1)) else band_modesFault_L4 g n v2 v3 v4 (w64 (v5 + 1)) e0 e1))))) else e1)
def band_modesFault_ (g : C_band_modesFault) (a1 : List Int) {R : Type} (k0 : Int → Option R) : Option R :=
 (bif ((a1.length : Int) == 0) then k0 8 else (band_modesFault_L4 g g.N a1 a1 (a1.length : Int) 0 (fun e12 => k0 e12) (k0 0)))
noncomputable def I_band_modesFault [Fuel] : C_band_modesFault := ⟨NN, @kit_IsMode _⟩
noncomputable def band_modesFault [Fuel] : T_band_modesFault := @band_modesFault_ I_band_modesFault
def SS_band_modesFault (g : T_band_modesFault) : Spec A := fun args => match args with | [.d (.sl 3 a1)] => fun k => g a1 (fun z0 => k (.d (.int .i64 z0)) [.undef]) | _ => fun _ => none
def sh_band_modesFault_L4 : SSt := mkSh 30 0 [(0, .sl 3), (8, .sl 3), (9, .int .i64), (10, .int .i64)] []
def LP_band_modesFault_L4 (g : C_band_modesFault) (n : Nat) : LPT A := fun ps => match ps with | [.d (.sl 3 p1), .d (.sl 3 p2), .d (.int .i64 p3), .d (.int .i64 p4)] => fun K => band_modesFault_L4 g n p1 p2 p3 p4 (fun z0 => K .ret (mkSt 30 0 [(2, .d (.int .i64 z0))] [])) (K (.exit 0) (mkSt 30 0 [] [])) | _ => fun _ => none
noncomputable def code_78 : Code := (Tryz.f78.body).getD .skip
noncomputable def E_band_modesFault (g : C_band_modesFault) : Env A := mkE [(44, SS_kit_IsMode g.kit_IsMode)] [] [(4, ⟨[0, 8, 9, 10], [], [], [], [], []⟩)] [(4, ⟨[2], [], [], [], [], []⟩)] [(4, pieceOf sh_band_modesFault_L4 (LP_band_modesFault_L4 g g.N))] [] [] [] [] []
theorem ct_band_modesFault [Fuel] : NatTab (E_band_modesFault I_band_modesFault).C := ct_of (P := Tryz.prog) (T := T) (.cons ok_kit_IsMode .nil) (by kernel_rfl)
noncomputable def cb_band_modesFault_L4 : Code := sub [1, 1, 0, 1, 0, 0] code_78
theorem s_band_modesFault_L4 (g : C_band_modesFault) (n : Nat) : StepOk (E_band_modesFault g) g.N cb_band_modesFault_L4 sh_band_modesFault_L4 (LP_band_modesFault_L4 g) n := by intro ps; unfold LP_band_modesFault_L4; split; exact .inr fun R K => (by kernel_rfl); exact .inl fun R K => rfl
theorem lf_band_modesFault_L4 [Fuel] : LoopFine (E_band_modesFault I_band_modesFault) NN cb_band_modesFault_L4 := fine_loop sh_band_modesFault_L4 (LP_band_modesFault_L4 I_band_modesFault) (by kernel_rfl) ct_band_modesFault (cuts0 (fun _ => rfl) (by kernel_rfl)) (fun ps R K => by unfold LP_band_modesFault_L4; split <;> (try unfold band_modesFault_L4) <;> rfl) (s_band_modesFault_L4 I_band_modesFault)
theorem sm_band_modesFault (g : C_band_modesFault) : Same (SS_band_modesFault (@band_modesFault_ g)) (abody (E_band_modesFault g) Tryz.f78 code_78 0 [] [.asis] g.N) := by intro args; unfold SS_band_modesFault; split; exact .inr fun R k => (by kernel_rfl); exact .inl fun R k => rfl
theorem ok_band_modesFault [Fuel] : Ok 78 (SS_band_modesFault (@band_modesFault _)) := okF_of std (.cons ok_kit_IsMode .nil) ⟨rfl, rfl, by kernel_rfl, rfl, rfl, rfl⟩ (sm_band_modesFault I_band_modesFault) (cutsL (fun _ => rfl) (.cons lf_band_modesFault_L4 .nil) (by kernel_rfl)) Tryz.func78 (by kernel_rfl) (by kernel_rfl)
abbrev T_kit_IsTime : Type 1 := G_Window → {R : Type} → (Bool → Option R) → Option R
def kit_IsTime_ (g : Nat) (a1 : G_Window) {R : Type} (k0 : Bool → Option R) : Option R :=
 (bif (decide (a1.f_From ≥ 0)) then (bif (decide (a1.f_From < a1.f_To)) then k0 (decide (a1.f_To ≤ 345686400000)) else k0 false) else k0 false)
noncomputable def kit_IsTime [Fuel] : T_kit_IsTime := @kit_IsTime_ NN
def SS_kit_IsTime (g : T_kit_IsTime) : Spec A := fun args => match args with | [.agg [.d (.int .i64 a1), .d (.int .i64 a2)]] => fun k => g ⟨a1, a2⟩ (fun z0 => k (.d (.bool z0)) [.undef]) | _ => fun _ => none
noncomputable def code_79 : Code := (Tryz.f79.body).getD .skip
noncomputable def E_kit_IsTime (g : Nat) : Env A := mkE [] [(1, [0])] [] [] [] [] [] [] [] []
theorem sm_kit_IsTime (g : Nat) : Same (SS_kit_IsTime (@kit_IsTime_ g)) (abody (E_kit_IsTime g) Tryz.f79 code_79 1 [] [.asis] g) := by intro args; unfold SS_kit_IsTime; split; exact .inr fun R k => (by kernel_rfl); exact .inl fun R k => rfl
theorem ok_kit_IsTime [Fuel] : Ok 79 (SS_kit_IsTime (@kit_IsTime _)) := okF_of std .nil ⟨rfl, rfl, by kernel_rfl, rfl, rfl, rfl⟩ (sm_kit_IsTime NN) (cuts0 (fun _ => rfl) (by kernel_rfl)) Tryz.func79 (by kernel_rfl) (by kernel_rfl)
abbrev T_band_compareSegments : Type 1 := G_Segment → G_Segment → {R : Type} → (Int → Option R) → Option R
structure C_band_compareSegments where
 N : Nat
 cmp_Or__int : T_cmp_Or__int
 strings_Compare : T_strings_Compare
 cmp_Compare__int : T_cmp_Compare__int
def band_compareSegments_ (g : C_band_compareSegments) (a1 a2 : G_Segment) {R : Type} (k0 : Int → Option R) : Option R :=
 (g.strings_Compare a1.f_Class a2.f_Class (fun r3 => (g.cmp_Compare__int a1.f_Low a2.f_Low (fun r4 => (g.cmp_Compare__int a1.f_High a2.f_High (fun r5 => (g.cmp_Compare__int a1.f_Time.f_From a2.f_Time.f_From (fun r6 => (g.cmp_Or__int [r3, r4, r5, r6] (fun r7 => k0 r7))))))))))
noncomputable def I_band_compareSegments [Fuel] : C_band_compareSegments := ⟨NN, @cmp_Or__int _, @strings_Compare _, @cmp_Compare__int _⟩
noncomputable def band_compareSegments [Fuel] : T_band_compareSegments := @band_compareSegments_ I_band_compareSegments
def SS_band_compareSegments (g : T_band_compareSegments) : Spec A := fun args => match args with | [.agg [.d (.str a1), .d (.int .i64 a2), .d (.int .i64 a3), .d (.sl 3 a4), .d (.int .i64 a5), .d (.int .i64 a6)], .agg [.d (.str a7), .d (.int .i64 a8), .d (.int .i64 a9), .d (.sl 3 a10), .d (.int .i64 a11), .d (.int .i64 a12)]] => fun k => g ⟨a1, a2, a3, a4, ⟨a5, a6⟩⟩ ⟨a7, a8, a9, a10, ⟨a11, a12⟩⟩ (fun z0 => k (.d (.int .i64 z0)) [.undef, .undef]) | _ => fun _ => none
noncomputable def code_80 : Code := (Tryz.f80.body).getD .skip
noncomputable def E_band_compareSegments (g : C_band_compareSegments) : Env A := mkE [(54, SS_cmp_Or__int g.cmp_Or__int), (55, SS_strings_Compare g.strings_Compare), (60, SS_cmp_Compare__int g.cmp_Compare__int)] [(2, [0]), (3, [1]), (27, [2])] [] [] [] [] [] [] [] []
theorem sm_band_compareSegments (g : C_band_compareSegments) : Same (SS_band_compareSegments (@band_compareSegments_ g)) (abody (E_band_compareSegments g) Tryz.f80 code_80 3 [] [.asis] g.N) := by intro args; unfold SS_band_compareSegments; split; exact .inr fun R k => (by kernel_rfl); exact .inl fun R k => rfl
theorem ok_band_compareSegments [Fuel] : Ok 80 (SS_band_compareSegments (@band_compareSegments _)) := okF_of std (.cons ok_cmp_Or__int (.cons ok_strings_Compare (.cons ok_cmp_Compare__int .nil))) ⟨rfl, rfl, by kernel_rfl, rfl, rfl, rfl⟩ (sm_band_compareSegments I_band_compareSegments) (cuts0 (fun _ => rfl) (by kernel_rfl)) Tryz.func80 (by kernel_rfl) (by kernel_rfl)
abbrev T_band_CheckSegments : Type 1 := List G_Segment → {R : Type} → (Int → Option R) → Option R
structure C_band_CheckSegments where
 N : Nat
 kit_IsKey : T_kit_IsKey
 band_modesFault : T_band_modesFault
 kit_IsTime : T_kit_IsTime
 band_compareSegments : T_band_compareSegments
def band_CheckSegments_L4 (g : C_band_CheckSegments) : Nat → List G_Segment → List G_Segment → Int → Int → {R : Type} → (Int → Option R) → Option R → Option R
 | 0, _, _, _, _, _, _, _ => none
 | n + 1, v2, v3, v4, v5, _, e0, e1 => (bif (decide (v5 < v4)) then (get_ v3 v5 fun x12 => (g.kit_IsKey x12.f_Class (fun r13 => (bif (!r13) then e0 5 else (bif (decide (x12.f_Low < 0)) then e0 1 else (bif (decide (x12.f_Low ≥ x12.f_High)) then e0 1 else (bif (decide (x12.f_High > 30000000000)) then e0 1 else (g.band_modesFault x12.f_Modes (fun r14 => (bif (r14 != 0) then e0 r14 else (g.kit_IsTime x12.f_Time (fun r15 => (bif (!r15) then e0 1 else (bif (decide (v5 > 0)) then (get_ v2 (w64 (v5 - 1)) fun x16 => (g.band_compareSegments x16 x12 (fun r17 => (bif (decide (r17 ≥ 0)) then e0 7 else band_CheckSegments_L4 g n v2 v3 v4 (w64 (v5 + 1)) e0 e1)))) else band_CheckSegments_L4 g n v2 v3 v4 (w64 (v5 + 1)) e0 e1)))))))))))))) else e1)
def band_CheckSegments_ (g : C_band_CheckSegments) (a1 : List G_Segment) {R : Type} (k0 : Int → Option R) : Option R :=
 (bif (decide ((a1.length : Int) > 500)) then k0 2 else (band_CheckSegments_L4 g g.N a1 a1 (a1.length : Int) 0 (fun e18 => k0 e18) (k0 0)))
noncomputable def I_band_CheckSegments [Fuel] : C_band_CheckSegments := ⟨NN, @kit_IsKey _, @band_modesFault _, @kit_IsTime _, @band_compareSegments _⟩
noncomputable def band_CheckSegments [Fuel] : T_band_CheckSegments := @band_CheckSegments_ I_band_CheckSegments
def SS_band_CheckSegments (g : T_band_CheckSegments) : Spec A := fun args => match args with | [.d (.sl 68 a1)] => fun k => g a1 (fun z0 => k (.d (.int .i64 z0)) [.undef]) | _ => fun _ => none
def sh_band_CheckSegments_L4 : SSt := mkSh 58 1 [(0, .sl 68), (9, .sl 68), (10, .int .i64), (11, .int .i64)] []
def LP_band_CheckSegments_L4 (g : C_band_CheckSegments) (n : Nat) : LPT A := fun ps => match ps with | [.d (.sl 68 p1), .d (.sl 68 p2), .d (.int .i64 p3), .d (.int .i64 p4)] => fun K => band_CheckSegments_L4 g n p1 p2 p3 p4 (fun z0 => K .ret (mkSt 58 1 [(2, .d (.int .i64 z0))] [])) (K (.exit 0) (mkSt 58 1 [] [])) | _ => fun _ => none
noncomputable def code_43 : Code := (Tryz.f43.body).getD .skip
noncomputable def E_band_CheckSegments (g : C_band_CheckSegments) : Env A := mkE [(28, SS_kit_IsKey g.kit_IsKey), (78, SS_band_modesFault g.band_modesFault), (79, SS_kit_IsTime g.kit_IsTime), (80, SS_band_compareSegments g.band_compareSegments)] [(4, [0])] [(4, ⟨[0, 9, 10, 11], [], [], [], [], []⟩)] [(4, ⟨[2], [], [], [], [], []⟩)] [(4, pieceOf sh_band_CheckSegments_L4 (LP_band_CheckSegments_L4 g g.N))] [] [] [] [] []
theorem ct_band_CheckSegments [Fuel] : NatTab (E_band_CheckSegments I_band_CheckSegments).C := ct_of (P := Tryz.prog) (T := T) (.cons ok_kit_IsKey (.cons ok_band_modesFault (.cons ok_kit_IsTime (.cons ok_band_compareSegments .nil)))) (by kernel_rfl)
noncomputable def cb_band_CheckSegments_L4 : Code := sub [1, 1, 0, 1, 0, 0] code_43
theorem s_band_CheckSegments_L4 (g : C_band_CheckSegments) (n : Nat) : StepOk (E_band_CheckSegments g) g.N cb_band_CheckSegments_L4 sh_band_CheckSegments_L4 (LP_band_CheckSegments_L4 g) n := by intro ps; unfold LP_band_CheckSegments_L4; split; exact .inr fun R K => (by kernel_rfl); exact .inl fun R K => rfl
theorem lf_band_CheckSegments_L4 [Fuel] : LoopFine (E_band_CheckSegments I_band_CheckSegments) NN cb_band_CheckSegments_L4 := fine_loop sh_band_CheckSegments_L4 (LP_band_CheckSegments_L4 I_band_CheckSegments) (by kernel_rfl) ct_band_CheckSegments (cuts0 (fun _ => rfl) (by kernel_rfl)) (fun ps R K => by unfold LP_band_CheckSegments_L4; split <;> (try unfold band_CheckSegments_L4) <;> rfl) (s_band_CheckSegments_L4 I_band_CheckSegments)
theorem sm_band_CheckSegments (g : C_band_CheckSegments) : Same (SS_band_CheckSegments (@band_CheckSegments_ g)) (abody (E_band_CheckSegments g) Tryz.f43 code_43 1 [] [.asis] g.N) := by intro args; unfold SS_band_CheckSegments; split; exact .inr fun R k => (by kernel_rfl); exact .inl fun R k => rfl
theorem ok_band_CheckSegments [Fuel] : Ok 43 (SS_band_CheckSegments (@band_CheckSegments _)) := okF_of std (.cons ok_kit_IsKey (.cons ok_band_modesFault (.cons ok_kit_IsTime (.cons ok_band_compareSegments .nil)))) ⟨rfl, rfl, by kernel_rfl, rfl, rfl, rfl⟩ (sm_band_CheckSegments I_band_CheckSegments) (cutsL (fun _ => rfl) (.cons lf_band_CheckSegments_L4 .nil) (by kernel_rfl)) Tryz.func43 (by kernel_rfl) (by kernel_rfl)
abbrev T_band_used : Type 1 := Int → Int → {R : Type} → (G_Row → Option R) → Option R
def band_used_ (g : Nat) (a1 a2 : Int) {R : Type} (k0 : G_Row → Option R) : Option R :=
 k0 (⟨(w64 (a1 - (w64 (Int.tdiv a2 2)))), (w64 ((w64 (a1 - (w64 (Int.tdiv a2 2)))) + a2))⟩ : G_Row)
noncomputable def band_used [Fuel] : T_band_used := @band_used_ NN
def SS_band_used (g : T_band_used) : Spec A := fun args => match args with | [.d (.int .i64 a1), .d (.int .i64 a2)] => fun k => g a1 a2 (fun z0 => k (.agg [.d (.int .i64 z0.f_From), .d (.int .i64 z0.f_To)]) [.undef, .undef]) | _ => fun _ => none
noncomputable def code_46 : Code := (Tryz.f46.body).getD .skip
noncomputable def E_band_used (g : Nat) : Env A := mkE [] [(4, [0])] [] [] [] [] [] [] [] []
theorem sm_band_used (g : Nat) : Same (SS_band_used (@band_used_ g)) (abody (E_band_used g) Tryz.f46 code_46 1 [] [.asis] g) := by intro args; unfold SS_band_used; split; exact .inr fun R k => (by kernel_rfl); exact .inl fun R k => rfl
theorem ok_band_used [Fuel] : Ok 46 (SS_band_used (@band_used _)) := okF_of std .nil ⟨rfl, rfl, by kernel_rfl, rfl, rfl, rfl⟩ (sm_band_used NN) (cuts0 (fun _ => rfl) (by kernel_rfl)) Tryz.func46 (by kernel_rfl) (by kernel_rfl)
abbrev T_kit_Has : Type 1 := G_Window → Int → {R : Type} → (Bool → Option R) → Option R
def kit_Has_ (g : Nat) (a1 : G_Window) (a2 : Int) {R : Type} (k0 : Bool → Option R) : Option R :=
 (bif (decide (a1.f_From ≤ a2)) then k0 (decide (a2 < a1.f_To)) else k0 false)
noncomputable def kit_Has [Fuel] : T_kit_Has := @kit_Has_ NN
def SS_kit_Has (g : T_kit_Has) : Spec A := fun args => match args with | [.agg [.d (.int .i64 a1), .d (.int .i64 a2)], .d (.int .i64 a3)] => fun k => g ⟨a1, a2⟩ a3 (fun z0 => k (.d (.bool z0)) [.undef, .undef]) | _ => fun _ => none
noncomputable def code_82 : Code := (Tryz.f82.body).getD .skip
noncomputable def E_kit_Has (g : Nat) : Env A := mkE [] [(2, [0])] [] [] [] [] [] [] [] []
theorem sm_kit_Has (g : Nat) : Same (SS_kit_Has (@kit_Has_ g)) (abody (E_kit_Has g) Tryz.f82 code_82 1 [] [.asis] g) := by intro args; unfold SS_kit_Has; split; exact .inr fun R k => (by kernel_rfl); exact .inl fun R k => rfl
theorem ok_kit_Has [Fuel] : Ok 82 (SS_kit_Has (@kit_Has _)) := okF_of std .nil ⟨rfl, rfl, by kernel_rfl, rfl, rfl, rfl⟩ (sm_kit_Has NN) (cuts0 (fun _ => rfl) (by kernel_rfl)) Tryz.func82 (by kernel_rfl) (by kernel_rfl)
abbrev T_band_joined_1 : Type 1 := G_Row → G_Row → {R : Type} → (Int → Option R) → Option R
def band_joined_1_ (g : Nat) (a1 a2 : G_Row) {R : Type} (k0 : Int → Option R) : Option R :=
 k0 (w64 (a1.f_From - a2.f_From))
noncomputable def band_joined_1 [Fuel] : T_band_joined_1 := @band_joined_1_ NN
def SS_band_joined_1 (g : T_band_joined_1) : Spec A := fun args => match args with | [.agg [.d (.int .i64 a1), .d (.int .i64 a2)], .agg [.d (.int .i64 a3), .d (.int .i64 a4)]] => fun k => g ⟨a1, a2⟩ ⟨a3, a4⟩ (fun z0 => k (.d (.int .i64 z0)) [.undef, .undef]) | _ => fun _ => none
noncomputable def code_115 : Code := (Tryz.f115.body).getD .skip
noncomputable def E_band_joined_1 (g : Nat) : Env A := mkE [] [(2, [0]), (3, [1])] [] [] [] [] [] [] [] []
theorem sm_band_joined_1 (g : Nat) : Same (SS_band_joined_1 (@band_joined_1_ g)) (abody (E_band_joined_1 g) Tryz.f115 code_115 2 [] [.asis] g) := by intro args; unfold SS_band_joined_1; split; exact .inr fun R k => (by kernel_rfl); exact .inl fun R k => rfl
theorem ok_band_joined_1 [Fuel] : Ok 115 (SS_band_joined_1 (@band_joined_1 _)) := okF_of std .nil ⟨rfl, rfl, by kernel_rfl, rfl, rfl, rfl⟩ (sm_band_joined_1 NN) (cuts0 (fun _ => rfl) (by kernel_rfl)) Tryz.func115 (by kernel_rfl) (by kernel_rfl)
noncomputable def Ed_band_joined_1 (g : Nat) : Env A := mkED [] [(2, [0]), (3, [1])] [] [] [] [] [] [] [] []
theorem smd_band_joined_1 (g : Nat) : Same (SS_band_joined_1 (@band_joined_1_ g)) (abody (Ed_band_joined_1 g) Tryz.f115 code_115 2 [] [.asis] g) := by intro args; unfold SS_band_joined_1; split; exact .inr fun R k => (by kernel_rfl); exact .inl fun R k => rfl
theorem okd_band_joined_1 [Fuel] : OkD 115 (SS_band_joined_1 (@band_joined_1 _)) := okF_of stdD .nil ⟨rfl, rfl, by kernel_rfl, rfl, rfl, rfl⟩ (smd_band_joined_1 NN) (cuts0 (fun _ => rfl) (by kernel_rfl)) Tryz.func115 (by kernel_rfl) (by kernel_rfl)
abbrev T_slices_SortFunc__Row_band_joined_1 : Type 1 := List G_Row → {R : Type} → (List G_Row → Option R) → Option R
noncomputable def slices_SortFunc__Row_band_joined_1 [Fuel] : T_slices_SortFunc__Row_band_joined_1 := @X_sortf G_Row (@band_joined_1 _)
def SS_slices_SortFunc__Row_band_joined_1 (g : T_slices_SortFunc__Row_band_joined_1) : Spec A := fun args => match args with | [.arr 52 a1, .fn 115 []] => fun k => g a1 (fun z => k (.tup []) [.arr 52 z, .fn 115 []]) | _ => fun _ => none
theorem h1_slices_SortFunc__Row_band_joined_1 [Fuel] (xs : List (A 52)) (R : Type) (k : IV A → List (IV A) → Option R) : SS_slices_SortFunc__Row_band_joined_1 (@slices_SortFunc__Row_band_joined_1 _) [.arr 52 xs, .fn 115 []] k = X_sortf (α := A 52) (@band_joined_1 _) xs (fun z => k (.tup []) [.arr 52 z, .fn 115 []]) := by kernel_rfl
theorem h2_slices_SortFunc__Row_band_joined_1 [Fuel] (args : List (IV A)) (R : Type) (k : IV A → List (IV A) → Option R) (h : ∀ xs : List (A 52), args ≠ [.arr 52 xs, .fn 115 []]) : SS_slices_SortFunc__Row_band_joined_1 (@slices_SortFunc__Row_band_joined_1 _) args k = none := by unfold SS_slices_SortFunc__Row_band_joined_1; split; exact absurd rfl (h _); rfl
theorem hc_slices_SortFunc__Row_band_joined_1 [Fuel] (x y : A 52) (R : Type) (k : Int → Option R) : callOf T (SS_band_joined_1 (@band_joined_1 _)) 52 x y k = @band_joined_1 _ x y R k := by kernel_rfl
theorem hs_slices_SortFunc__Row_band_joined_1 (x : G_Row) : (enc_e52 x).all scal = true := rfl
theorem ok_slices_SortFunc__Row_band_joined_1 [Fuel] : Ok 114 (SS_slices_SortFunc__Row_band_joined_1 (@slices_SortFunc__Row_band_joined_1 _)) := ⟨sortf_sound (tyOk Tryz.prog) (e := 52) Tryz.sortf114 Tryz.isAgg52 Tryz.sizeOf52 (fun x d hd => List.all_eq_true.1 (hs_slices_SortFunc__Row_band_joined_1 x) d hd) hc_slices_SortFunc__Row_band_joined_1 okd_band_joined_1.fs okd_band_joined_1.en h1_slices_SortFunc__Row_band_joined_1 h2_slices_SortFunc__Row_band_joined_1, sortf_na (e := 52) h1_slices_SortFunc__Row_band_joined_1 h2_slices_SortFunc__Row_band_joined_1, enters_of (fn := Tryz.f114) Tryz.func114 (by kernel_rfl) (by kernel_rfl)⟩
abbrev T_band_joined : Type 1 := List G_Row → {R : Type} → (List G_Row → Option R) → Option R
structure C_band_joined where
 N : Nat
 slices_SortFunc__Row_band_joined_1 : T_slices_SortFunc__Row_band_joined_1
def band_joined_L4 (g : C_band_joined) : Nat → Int → Int → List G_Row → List G_Row → {R : Type} → (List G_Row → Option R) → Option R
 | 0, _, _, _, _, _, _ => none
 | n + 1, v3, v4, v5, v6, _, e0 => (bif (decide (v4 < v3)) then (inr v5 v4 (at_ v5 v4 fun x11 => (bif (decide ((w64 ((v6.length : Int) - 1)) ≥ 0)) then (inr v6 (w64 ((v6.length : Int) - 1)) (at_ v6 (w64 ((v6.length : Int) - 1)) fun x12 => (bif (decide (x11.f_From ≤ x12.f_To)) then (inr v6 (w64 ((v6.length : Int) - 1)) (at_ v6 (w64 ((v6.length : Int) - 1)) fun x13 => (inr v6 (w64 ((v6.length : Int) - 1)) (at_ v6 (w64 ((v6.length : Int) - 1)) fun x14 => band_joined_L4 g n v3 (w64 (v4 + 1)) v5 (set_ v6 (w64 ((v6.length : Int) - 1)) (⟨x14.f_From, (if x11.f_To > x13.f_To then x11.f_To else x13.f_To)⟩ : G_Row)) e0)))) else (bif (decide ((v6.length + [x11].length) * 16 ≤ roomBytes')) then band_joined_L4 g n v3 (w64 (v4 + 1)) v5 (v6 ++ [x11]) e0 else none)))) else (bif (decide ((v6.length + [x11].length) * 16 ≤ roomBytes')) then band_joined_L4 g n v3 (w64 (v4 + 1)) v5 (v6 ++ [x11]) e0 else none)))) else e0 v6)
def band_joined_ (g : C_band_joined) (a1 : List G_Row) {R : Type} (k0 : List G_Row → Option R) : Option R :=
 (g.slices_SortFunc__Row_band_joined_1 a1 (fun r2 => (band_joined_L4 g g.N (r2.length : Int) 0 r2 [] (fun e15 => k0 e15))))
noncomputable def I_band_joined [Fuel] : C_band_joined := ⟨NN, @slices_SortFunc__Row_band_joined_1 _⟩
noncomputable def band_joined [Fuel] : T_band_joined := @band_joined_ I_band_joined
def SS_band_joined (g : T_band_joined) : Spec A := fun args => match args with | [.arr 52 a1] => fun k => g a1 (fun z0 => k (.arr 52 z0) [.undef]) | _ => fun _ => none
def sh_band_joined_L4 : SSt := mkSh 48 5 [(3, .own 52 1), (9, .own 52 0), (10, .int .i64), (11, .int .i64)] [(0, .row 52), (1, .row 52)]
def LP_band_joined_L4 (g : C_band_joined) (n : Nat) : LPT A := fun ps => match ps with | [.d (.int .i64 p1), .d (.int .i64 p2), .d (.sl 52 p3), .d (.sl 52 p4)] => fun K => band_joined_L4 g n p1 p2 p3 p4 (fun z0 => K (.exit 0) (mkSt 48 5 [(3, .own 52 1)] [(1, some (.row 52 z0))])) | _ => fun _ => none
noncomputable def code_83 : Code := (Tryz.f83.body).getD .skip
noncomputable def E_band_joined (g : C_band_joined) : Env A := mkE [(114, SS_slices_SortFunc__Row_band_joined_1 g.slices_SortFunc__Row_band_joined_1)] [(5, [2]), (44, [3]), (45, [4])] [(4, ⟨[3, 9, 10, 11], [(3, 52, 1)], [0], [], [], []⟩)] [(4, ⟨[3], [], [1], [], [], []⟩)] [(4, pieceOf sh_band_joined_L4 (LP_band_joined_L4 g g.N))] [] [] [] [(114, 0)] []
theorem ct_band_joined [Fuel] : NatTab (E_band_joined I_band_joined).C := ct_of (P := Tryz.prog) (T := T) (.cons ok_slices_SortFunc__Row_band_joined_1 .nil) (by kernel_rfl)
noncomputable def cb_band_joined_L4 : Code := sub [1, 1, 1, 0, 1, 0, 0] code_83
theorem s_band_joined_L4 (g : C_band_joined) (n : Nat) : StepOk (E_band_joined g) g.N cb_band_joined_L4 sh_band_joined_L4 (LP_band_joined_L4 g) n := by intro ps; unfold LP_band_joined_L4; split; exact .inr fun R K => (by kernel_rfl); exact .inl fun R K => rfl
theorem lf_band_joined_L4 [Fuel] : LoopFine (E_band_joined I_band_joined) NN cb_band_joined_L4 := fine_loop sh_band_joined_L4 (LP_band_joined_L4 I_band_joined) (by kernel_rfl) ct_band_joined (cuts0 (fun _ => rfl) (by kernel_rfl)) (fun ps R K => by unfold LP_band_joined_L4; split <;> (try unfold band_joined_L4) <;> rfl) (s_band_joined_L4 I_band_joined)
theorem sm_band_joined (g : C_band_joined) : Same (SS_band_joined (@band_joined_ g)) (abody (E_band_joined g) Tryz.f83 code_83 5 [0] [.arr 52] g.N) := by intro args; unfold SS_band_joined; split; exact .inr fun R k => (by kernel_rfl); exact .inl fun R k => rfl
theorem ok_band_joined [Fuel] : Ok 83 (SS_band_joined (@band_joined _)) := okF_of std (.cons ok_slices_SortFunc__Row_band_joined_1 .nil) ⟨rfl, rfl, by kernel_rfl, rfl, rfl, rfl⟩ (sm_band_joined I_band_joined) (cutsL (fun _ => rfl) (.cons lf_band_joined_L4 .nil) (by kernel_rfl)) Tryz.func83 (by kernel_rfl) (by kernel_rfl)
end Go.Am
