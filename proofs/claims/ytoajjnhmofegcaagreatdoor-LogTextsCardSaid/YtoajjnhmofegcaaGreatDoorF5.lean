/- The functions of the program as Lean functions, each shown to be what the code computes, part 5. No condition: lemmas for the claim. -/
import Derived.Test.YtoajjnhmofegcaaGreatDoorF0
import Derived.Test.YtoajjnhmofegcaaGreatDoorFSh
import Derived.Test.YtoajjnhmofegcaaGreatDoorF1
import Derived.Test.YtoajjnhmofegcaaGreatDoorF3
import Derived.Test.YtoajjnhmofegcaaGreatDoorF4
set_option linter.unusedVariables false
set_option maxRecDepth 100000
namespace Go.Am
open Go Go.Proofs
abbrev T_log_Compare : Type 1 := G_Contact → G_Contact → {R : Type} → (Int → Option R) → Option R
structure C_log_Compare where
 N : Nat
 strings_Compare : T_strings_Compare
 cmp_Or__int : T_cmp_Or__int
 cmp_Compare__int : T_cmp_Compare__int
def log_Compare_ (g : C_log_Compare) (a1 a2 : G_Contact) {R : Type} (k0 : Int → Option R) : Option R :=
 (g.cmp_Compare__int a1.f_At a2.f_At (fun r3 => (g.strings_Compare a1.f_Call a2.f_Call (fun r4 => (g.strings_Compare a1.f_Band a2.f_Band (fun r5 => (g.cmp_Compare__int a1.f_Mode a2.f_Mode (fun r6 => (g.cmp_Or__int [r3, r4, r5, r6] (fun r7 => k0 r7))))))))))
noncomputable def I_log_Compare [Fuel] : C_log_Compare := ⟨NN, @strings_Compare _, @cmp_Or__int _, @cmp_Compare__int _⟩
noncomputable def log_Compare [Fuel] : T_log_Compare := @log_Compare_ I_log_Compare
def SS_log_Compare (g : T_log_Compare) : Spec A := fun args => match args with | [.agg [.d (.int .i64 a1), .d (.int .i64 a2), .d (.str a3), .d (.str a4), .d (.int .i64 a5), .d (.int .i64 a6), .d (.str a7), .d (.str a8)], .agg [.d (.int .i64 a9), .d (.int .i64 a10), .d (.str a11), .d (.str a12), .d (.int .i64 a13), .d (.int .i64 a14), .d (.str a15), .d (.str a16)]] => fun k => g ⟨a1, a2, a3, a4, a5, a6, a7, a8⟩ ⟨a9, a10, a11, a12, a13, a14, a15, a16⟩ (fun z0 => k (.d (.int .i64 z0)) [.undef, .undef]) | _ => fun _ => none
noncomputable def code_121 : Code := (Tryz.f121.body).getD .skip
noncomputable def E_log_Compare (g : C_log_Compare) : Env A := mkE [(118, SS_strings_Compare g.strings_Compare), (168, SS_cmp_Or__int g.cmp_Or__int), (169, SS_cmp_Compare__int g.cmp_Compare__int)] [(2, [0]), (3, [1]), (25, [2])] [] [] [] [] [] [] [] []
theorem sm_log_Compare (g : C_log_Compare) : Same (SS_log_Compare (@log_Compare_ g)) (abody (E_log_Compare g) Tryz.f121 code_121 3 [] [.asis] g.N) := by intro args; unfold SS_log_Compare; split; exact .inr fun R k => (by kernel_rfl); exact .inl fun R k => rfl
theorem ok_log_Compare [Fuel] : Ok 121 (SS_log_Compare (@log_Compare _)) := okF_of std (.cons ok_strings_Compare (.cons ok_cmp_Or__int (.cons ok_cmp_Compare__int .nil))) ⟨rfl, rfl, by kernel_rfl, rfl, rfl, rfl⟩ (sm_log_Compare I_log_Compare) (cuts0 (fun _ => rfl) (by kernel_rfl)) Tryz.func121 (by kernel_rfl) (by kernel_rfl)
abbrev T_log_CheckLog : Type 1 := List G_Contact → {R : Type} → (Int → Option R) → Option R
structure C_log_CheckLog where
 N : Nat
 log_CheckContact : T_log_CheckContact
 log_Compare : T_log_Compare
def log_CheckLog_L4 (g : C_log_CheckLog) : Nat → List G_Contact → List G_Contact → Int → Int → {R : Type} → (Int → Option R) → Option R → Option R
 | 0, _, _, _, _, _, _, _ => none
 | n + 1, v2, v3, v4, v5, _, e0, e1 => (bif (decide (v5 < v4)) then (get_ v3 v5 fun x10 => (g.log_CheckContact x10 (fun r11 => (bif (r11 != 0) then e0 r11 else (bif (decide (v5 > 0)) then (get_ v2 (w64 (v5 - 1)) fun x12 => (g.log_Compare x12 x10 (fun r13 => (bif (decide (r13 ≥ 0)) then e0 7 else log_CheckLog_L4 g n v2 v3 v4 (w64 (v5 + 1)) e0 e1)))) else log_CheckLog_L4 g n v2 v3 v4 (w64 (v5 + 1)) e0 e1))))) else e1)
def log_CheckLog_ (g : C_log_CheckLog) (a1 : List G_Contact) {R : Type} (k0 : Int → Option R) : Option R :=
 (bif (decide ((a1.length : Int) > 2000)) then k0 2 else (log_CheckLog_L4 g g.N a1 a1 (a1.length : Int) 0 (fun e14 => k0 e14) (k0 0)))
noncomputable def I_log_CheckLog [Fuel] : C_log_CheckLog := ⟨NN, @log_CheckContact _, @log_Compare _⟩
noncomputable def log_CheckLog [Fuel] : T_log_CheckLog := @log_CheckLog_ I_log_CheckLog
def SS_log_CheckLog (g : T_log_CheckLog) : Spec A := fun args => match args with | [.d (.sl 39 a1)] => fun k => g a1 (fun z0 => k (.d (.int .i64 z0)) [.undef]) | _ => fun _ => none
def sh_log_CheckLog_L4 : SSt := mkSh 34 1 [(0, .sl 39), (9, .sl 39), (10, .int .i64), (11, .int .i64)] []
def LP_log_CheckLog_L4 (g : C_log_CheckLog) (n : Nat) : LPT A := fun ps => match ps with | [.d (.sl 39 p1), .d (.sl 39 p2), .d (.int .i64 p3), .d (.int .i64 p4)] => fun K => log_CheckLog_L4 g n p1 p2 p3 p4 (fun z0 => K .ret (mkSt 34 1 [(2, .d (.int .i64 z0))] [])) (K (.exit 0) (mkSt 34 1 [] [])) | _ => fun _ => none
noncomputable def code_53 : Code := (Tryz.f53.body).getD .skip
noncomputable def E_log_CheckLog (g : C_log_CheckLog) : Env A := mkE [(120, SS_log_CheckContact g.log_CheckContact), (121, SS_log_Compare g.log_Compare)] [(4, [0])] [(4, ⟨[0, 9, 10, 11], [], [], [], [], [], []⟩)] [(4, ⟨[2], [], [], [], [], [], []⟩)] [(4, pieceOf sh_log_CheckLog_L4 (LP_log_CheckLog_L4 g g.N))] [] [] [] [] []
theorem ct_log_CheckLog [Fuel] : NatTab (E_log_CheckLog I_log_CheckLog).C := ct_of (P := Tryz.prog) (T := T) (.cons ok_log_CheckContact (.cons ok_log_Compare .nil)) (by kernel_rfl)
noncomputable def cb_log_CheckLog_L4 : Code := sub [1, 1, 0, 1, 0, 0] code_53
theorem s_log_CheckLog_L4 (g : C_log_CheckLog) (n : Nat) : StepOk (E_log_CheckLog g) g.N cb_log_CheckLog_L4 sh_log_CheckLog_L4 (LP_log_CheckLog_L4 g) n := by intro ps; unfold LP_log_CheckLog_L4; split; exact .inr fun R K => (by kernel_rfl); exact .inl fun R K => rfl
theorem lf_log_CheckLog_L4 [Fuel] : LoopFine (E_log_CheckLog I_log_CheckLog) NN cb_log_CheckLog_L4 := fine_loop sh_log_CheckLog_L4 (LP_log_CheckLog_L4 I_log_CheckLog) (by kernel_rfl) ct_log_CheckLog (cuts0 (fun _ => rfl) (by kernel_rfl)) (fun ps R K => by unfold LP_log_CheckLog_L4; split <;> (try unfold log_CheckLog_L4) <;> rfl) (s_log_CheckLog_L4 I_log_CheckLog)
theorem sm_log_CheckLog (g : C_log_CheckLog) : Same (SS_log_CheckLog (@log_CheckLog_ g)) (abody (E_log_CheckLog g) Tryz.f53 code_53 1 [] [.asis] g.N) := by intro args; unfold SS_log_CheckLog; split; exact .inr fun R k => (by kernel_rfl); exact .inl fun R k => rfl
theorem ok_log_CheckLog [Fuel] : Ok 53 (SS_log_CheckLog (@log_CheckLog _)) := okF_of std (.cons ok_log_CheckContact (.cons ok_log_Compare .nil)) ⟨rfl, rfl, by kernel_rfl, rfl, rfl, rfl⟩ (sm_log_CheckLog I_log_CheckLog) (cutsL (fun _ => rfl) (.cons lf_log_CheckLog_L4 .nil) (by kernel_rfl)) Tryz.func53 (by kernel_rfl) (by kernel_rfl)
abbrev T_kit_ModeWords : Type 1 := {R : Type} → (List (List UInt8) → Option R) → Option R
def kit_ModeWords_ (g : Nat)  {R : Type} (k0 : List (List UInt8) → Option R) : Option R :=
 k0 [[], [99, 111, 100, 101], [118, 111, 105, 99, 101], [100, 97, 116, 97]]
noncomputable def kit_ModeWords [Fuel] : T_kit_ModeWords := @kit_ModeWords_ NN
def SS_kit_ModeWords (g : T_kit_ModeWords) : Spec A := fun args => match args with | [] => fun k => g (fun z0 => k (.arr 9 z0) []) | _ => fun _ => none
noncomputable def code_81 : Code := (Tryz.f81.body).getD .skip
noncomputable def E_kit_ModeWords (g : Nat) : Env A := mkE [] [(1, [0])] [] [] [] [] [] [] [] []
theorem sm_kit_ModeWords (g : Nat) : Same (SS_kit_ModeWords (@kit_ModeWords_ g)) (abody (E_kit_ModeWords g) Tryz.f81 code_81 1 [] [.arr 9] g) := by intro args; unfold SS_kit_ModeWords; split; exact .inr fun R k => (by kernel_rfl); exact .inl fun R k => rfl
theorem ok_kit_ModeWords [Fuel] : Ok 81 (SS_kit_ModeWords (@kit_ModeWords _)) := okF_of std .nil ⟨rfl, rfl, by kernel_rfl, rfl, rfl, rfl⟩ (sm_kit_ModeWords NN) (cuts0 (fun _ => rfl) (by kernel_rfl)) Tryz.func81 (by kernel_rfl) (by kernel_rfl)
abbrev T_kit_Dash : Type 1 := List UInt8 → {R : Type} → (List UInt8 → Option R) → Option R
def kit_Dash_ (g : Nat) (a1 : List UInt8) {R : Type} (k0 : List UInt8 → Option R) : Option R :=
 (bif (a1 == []) then k0 [45] else k0 a1)
noncomputable def kit_Dash [Fuel] : T_kit_Dash := @kit_Dash_ NN
def SS_kit_Dash (g : T_kit_Dash) : Spec A := fun args => match args with | [.d (.str a1)] => fun k => g a1 (fun z0 => k (.d (.str z0)) [.undef]) | _ => fun _ => none
noncomputable def code_123 : Code := (Tryz.f123.body).getD .skip
noncomputable def E_kit_Dash (g : Nat) : Env A := mkE [] [] [] [] [] [] [] [] [] []
theorem sm_kit_Dash (g : Nat) : Same (SS_kit_Dash (@kit_Dash_ g)) (abody (E_kit_Dash g) Tryz.f123 code_123 0 [] [.asis] g) := by intro args; unfold SS_kit_Dash; split; exact .inr fun R k => (by kernel_rfl); exact .inl fun R k => rfl
theorem ok_kit_Dash [Fuel] : Ok 123 (SS_kit_Dash (@kit_Dash _)) := okF_of std .nil ⟨rfl, rfl, by kernel_rfl, rfl, rfl, rfl⟩ (sm_kit_Dash NN) (cuts0 (fun _ => rfl) (by kernel_rfl)) Tryz.func123 (by kernel_rfl) (by kernel_rfl)
abbrev T_kit_Join : Type 1 := List (List UInt8) → {R : Type} → (List UInt8 → Option R) → Option R
structure C_kit_Join where
 N : Nat
 strings_Join : T_strings_Join
def kit_Join_ (g : C_kit_Join) (a1 : List (List UInt8)) {R : Type} (k0 : List UInt8 → Option R) : Option R :=
 (g.strings_Join a1 [32] (fun r2 => (bif (strOk r2 [10]) then k0 (r2 ++ [10]) else none)))
noncomputable def I_kit_Join [Fuel] : C_kit_Join := ⟨NN, @strings_Join _⟩
noncomputable def kit_Join [Fuel] : T_kit_Join := @kit_Join_ I_kit_Join
def SS_kit_Join (g : T_kit_Join) : Spec A := fun args => match args with | [.d (.sl 9 a1)] => fun k => g a1 (fun z0 => k (.d (.str z0)) [.undef]) | _ => fun _ => none
noncomputable def code_78 : Code := (Tryz.f78.body).getD .skip
noncomputable def E_kit_Join (g : C_kit_Join) : Env A := mkE [(86, SS_strings_Join g.strings_Join)] [] [] [] [] [] [] [] [] []
theorem sm_kit_Join (g : C_kit_Join) : Same (SS_kit_Join (@kit_Join_ g)) (abody (E_kit_Join g) Tryz.f78 code_78 0 [] [.asis] g.N) := by intro args; unfold SS_kit_Join; split; exact .inr fun R k => (by kernel_rfl); exact .inl fun R k => rfl
theorem ok_kit_Join [Fuel] : Ok 78 (SS_kit_Join (@kit_Join _)) := okF_of std (.cons ok_strings_Join .nil) ⟨rfl, rfl, by kernel_rfl, rfl, rfl, rfl⟩ (sm_kit_Join I_kit_Join) (cuts0 (fun _ => rfl) (by kernel_rfl)) Tryz.func78 (by kernel_rfl) (by kernel_rfl)
abbrev T_log_Line : Type 1 := G_Contact → {R : Type} → (List UInt8 → Option R) → Option R
structure C_log_Line where
 N : Nat
 kit_Join : T_kit_Join
 strconv_Itoa : T_strconv_Itoa
 kit_ModeWords : T_kit_ModeWords
 kit_Dash : T_kit_Dash
def log_Line_ (g : C_log_Line) (a1 : G_Contact) {R : Type} (k0 : List UInt8 → Option R) : Option R :=
 (g.strconv_Itoa a1.f_At (fun r2 => (g.kit_ModeWords (fun r3 => (inr r3 a1.f_Mode (at_ r3 a1.f_Mode fun x4 => (g.strconv_Itoa a1.f_Sent (fun r5 => (g.kit_Dash a1.f_Gave (fun r6 => (g.strconv_Itoa a1.f_Heard (fun r7 => (g.kit_Dash a1.f_Got (fun r8 => (g.kit_Join [r2, x4, a1.f_Band, a1.f_Call, r5, r6, r7, r8] (fun r9 => k0 r9))))))))))))))))
noncomputable def I_log_Line [Fuel] : C_log_Line := ⟨NN, @kit_Join _, @strconv_Itoa _, @kit_ModeWords _, @kit_Dash _⟩
noncomputable def log_Line [Fuel] : T_log_Line := @log_Line_ I_log_Line
def SS_log_Line (g : T_log_Line) : Spec A := fun args => match args with | [.agg [.d (.int .i64 a1), .d (.int .i64 a2), .d (.str a3), .d (.str a4), .d (.int .i64 a5), .d (.int .i64 a6), .d (.str a7), .d (.str a8)]] => fun k => g ⟨a1, a2, a3, a4, a5, a6, a7, a8⟩ (fun z0 => k (.d (.str z0)) [.undef]) | _ => fun _ => none
noncomputable def code_55 : Code := (Tryz.f55.body).getD .skip
noncomputable def E_log_Line (g : C_log_Line) : Env A := mkE [(78, SS_kit_Join g.kit_Join), (79, SS_strconv_Itoa g.strconv_Itoa), (81, SS_kit_ModeWords g.kit_ModeWords), (123, SS_kit_Dash g.kit_Dash)] [(1, [0]), (6, [1]), (27, [2])] [] [] [] [] [] [] [] []
theorem sm_log_Line (g : C_log_Line) : Same (SS_log_Line (@log_Line_ g)) (abody (E_log_Line g) Tryz.f55 code_55 3 [] [.asis] g.N) := by intro args; unfold SS_log_Line; split; exact .inr fun R k => (by kernel_rfl); exact .inl fun R k => rfl
theorem ok_log_Line [Fuel] : Ok 55 (SS_log_Line (@log_Line _)) := okF_of std (.cons ok_kit_Join (.cons ok_strconv_Itoa (.cons ok_kit_ModeWords (.cons ok_kit_Dash .nil)))) ⟨rfl, rfl, by kernel_rfl, rfl, rfl, rfl⟩ (sm_log_Line I_log_Line) (cuts0 (fun _ => rfl) (by kernel_rfl)) Tryz.func55 (by kernel_rfl) (by kernel_rfl)
abbrev T_log_Text : Type 1 := List G_Contact → {R : Type} → (List UInt8 → Int → Option R) → Option R
structure C_log_Text where
 N : Nat
 log_CheckLog : T_log_CheckLog
 log_Line : T_log_Line
def log_Text_L6 (g : C_log_Text) : Nat → List G_Contact → Int → Int → List UInt8 → {R : Type} → (List UInt8 → Option R) → Option R
 | 0, _, _, _, _, _, _ => none
 | n + 1, v3, v4, v5, v6, _, e0 => (bif (decide (v5 < v4)) then (get_ v3 v5 fun x9 => (g.log_Line x9 (fun r10 => (bif (decide (v6.length + r10.length ≤ 140737488355328)) then log_Text_L6 g n v3 v4 (w64 (v5 + 1)) (v6 ++ r10) e0 else none)))) else e0 v6)
def log_Text_ (g : C_log_Text) (a1 : List G_Contact) {R : Type} (k0 : List UInt8 → Int → Option R) : Option R :=
 (g.log_CheckLog a1 (fun r2 => (bif (r2 != 0) then k0 [] r2 else (log_Text_L6 g g.N a1 (a1.length : Int) 0 [] (fun e11 => (bif (decide ((e11.length : Int) > 200000)) then k0 [] 2 else k0 e11 0))))))
noncomputable def I_log_Text [Fuel] : C_log_Text := ⟨NN, @log_CheckLog _, @log_Line _⟩
noncomputable def log_Text [Fuel] : T_log_Text := @log_Text_ I_log_Text
def SS_log_Text (g : T_log_Text) : Spec A := fun args => match args with | [.d (.sl 39 a1)] => fun k => g a1 (fun z0 z1 => k (.tup [.d (.str z0), .d (.int .i64 z1)]) [.undef]) | _ => fun _ => none
def sh_log_Text_L6 : SSt := mkSh 26 2 [(5, .ptr 0 0), (13, .sl 39), (14, .int .i64), (15, .int .i64)] [(0, .bld)]
def LP_log_Text_L6 (g : C_log_Text) (n : Nat) : LPT A := fun ps => match ps with | [.d (.sl 39 p1), .d (.int .i64 p2), .d (.int .i64 p3), .d (.str p4)] => fun K => log_Text_L6 g n p1 p2 p3 p4 (fun z0 => K (.exit 0) (mkSt 26 2 [(5, .ptr 0 0)] [(0, some (.bld z0))])) | _ => fun _ => none
noncomputable def code_10 : Code := (Tryz.f10.body).getD .skip
noncomputable def E_log_Text (g : C_log_Text) : Env A := mkE [(53, SS_log_CheckLog g.log_CheckLog), (55, SS_log_Line g.log_Line)] [(5, [0]), (7, [1])] [(6, ⟨[5, 13, 14, 15], [], [0], [], [], [], []⟩)] [(6, ⟨[5], [], [0], [], [], [], []⟩)] [(6, pieceOf sh_log_Text_L6 (LP_log_Text_L6 g g.N))] [] [] [] [] []
theorem ct_log_Text [Fuel] : NatTab (E_log_Text I_log_Text).C := ct_of (P := Tryz.prog) (T := T) (.cons ok_log_CheckLog (.cons ok_log_Line .nil)) (by kernel_rfl)
noncomputable def cb_log_Text_L6 : Code := sub [1, 1, 1, 0, 1, 0, 0] code_10
theorem s_log_Text_L6 (g : C_log_Text) (n : Nat) : StepOk (E_log_Text g) g.N cb_log_Text_L6 sh_log_Text_L6 (LP_log_Text_L6 g) n := by intro ps; unfold LP_log_Text_L6; split; exact .inr fun R K => (by kernel_rfl); exact .inl fun R K => rfl
theorem lf_log_Text_L6 [Fuel] : LoopFine (E_log_Text I_log_Text) NN cb_log_Text_L6 := fine_loop sh_log_Text_L6 (LP_log_Text_L6 I_log_Text) (by kernel_rfl) ct_log_Text (cuts0 (fun _ => rfl) (by kernel_rfl)) (fun ps R K => by unfold LP_log_Text_L6; split <;> (try unfold log_Text_L6) <;> rfl) (s_log_Text_L6 I_log_Text)
theorem sm_log_Text (g : C_log_Text) : Same (SS_log_Text (@log_Text_ g)) (abody (E_log_Text g) Tryz.f10 code_10 2 [] [.asis, .asis] g.N) := by intro args; unfold SS_log_Text; split; exact .inr fun R k => (by kernel_rfl); exact .inl fun R k => rfl
theorem ok_log_Text [Fuel] : Ok 10 (SS_log_Text (@log_Text _)) := okF_of std (.cons ok_log_CheckLog (.cons ok_log_Line .nil)) ⟨rfl, rfl, by kernel_rfl, rfl, rfl, rfl⟩ (sm_log_Text I_log_Text) (cutsL (fun _ => rfl) (.cons lf_log_Text_L6 .nil) (by kernel_rfl)) Tryz.func10 (by kernel_rfl) (by kernel_rfl)
abbrev T_stringslite_HasSuffix : Type 1 := List UInt8 → List UInt8 → {R : Type} → (Bool → Option R) → Option R
def stringslite_HasSuffix_ (g : Nat) (a1 a2 : List UInt8) {R : Type} (k0 : Bool → Option R) : Option R :=
 (bif (decide ((a1.length : Int) ≥ (a2.length : Int))) then (bif (decide (0 ≤ (w64 ((a1.length : Int) - (a2.length : Int)))) && decide ((w64 ((a1.length : Int) - (a2.length : Int))) ≤ (a1.length : Int))) then k0 ((a1.drop ((w64 ((a1.length : Int) - (a2.length : Int))) : Int).toNat) == a2) else none) else k0 false)
noncomputable def stringslite_HasSuffix [Fuel] : T_stringslite_HasSuffix := @stringslite_HasSuffix_ NN
def SS_stringslite_HasSuffix (g : T_stringslite_HasSuffix) : Spec A := fun args => match args with | [.d (.str a1), .d (.str a2)] => fun k => g a1 a2 (fun z0 => k (.d (.bool z0)) [.undef, .undef]) | _ => fun _ => none
noncomputable def code_214 : Code := (Tryz.f214.body).getD .skip
noncomputable def E_stringslite_HasSuffix (g : Nat) : Env A := mkE [] [] [] [] [] [] [] [] [] []
theorem sm_stringslite_HasSuffix (g : Nat) : Same (SS_stringslite_HasSuffix (@stringslite_HasSuffix_ g)) (abody (E_stringslite_HasSuffix g) Tryz.f214 code_214 0 [] [.asis] g) := by intro args; unfold SS_stringslite_HasSuffix; split; exact .inr fun R k => (by kernel_rfl); exact .inl fun R k => rfl
theorem ok_stringslite_HasSuffix [Fuel] : Ok 214 (SS_stringslite_HasSuffix (@stringslite_HasSuffix _)) := okF_of std .nil ⟨rfl, rfl, by kernel_rfl, rfl, rfl, rfl⟩ (sm_stringslite_HasSuffix NN) (cuts0 (fun _ => rfl) (by kernel_rfl)) Tryz.func214 (by kernel_rfl) (by kernel_rfl)
abbrev T_stringslite_CutSuffix : Type 1 := List UInt8 → List UInt8 → {R : Type} → (List UInt8 → Bool → Option R) → Option R
structure C_stringslite_CutSuffix where
 N : Nat
 stringslite_HasSuffix : T_stringslite_HasSuffix
def stringslite_CutSuffix_ (g : C_stringslite_CutSuffix) (a1 a2 : List UInt8) {R : Type} (k0 : List UInt8 → Bool → Option R) : Option R :=
 (g.stringslite_HasSuffix a1 a2 (fun r3 => (bif (!r3) then k0 a1 false else (bif (decide (0 ≤ (w64 ((a1.length : Int) - (a2.length : Int)))) && decide ((w64 ((a1.length : Int) - (a2.length : Int))) ≤ (a1.length : Int))) then k0 (a1.take ((w64 ((a1.length : Int) - (a2.length : Int))) : Int).toNat) true else none))))
noncomputable def I_stringslite_CutSuffix [Fuel] : C_stringslite_CutSuffix := ⟨NN, @stringslite_HasSuffix _⟩
noncomputable def stringslite_CutSuffix [Fuel] : T_stringslite_CutSuffix := @stringslite_CutSuffix_ I_stringslite_CutSuffix
def SS_stringslite_CutSuffix (g : T_stringslite_CutSuffix) : Spec A := fun args => match args with | [.d (.str a1), .d (.str a2)] => fun k => g a1 a2 (fun z0 z1 => k (.tup [.d (.str z0), .d (.bool z1)]) [.undef, .undef]) | _ => fun _ => none
noncomputable def code_171 : Code := (Tryz.f171.body).getD .skip
noncomputable def E_stringslite_CutSuffix (g : C_stringslite_CutSuffix) : Env A := mkE [(214, SS_stringslite_HasSuffix g.stringslite_HasSuffix)] [] [] [] [] [] [] [] [] []
theorem sm_stringslite_CutSuffix (g : C_stringslite_CutSuffix) : Same (SS_stringslite_CutSuffix (@stringslite_CutSuffix_ g)) (abody (E_stringslite_CutSuffix g) Tryz.f171 code_171 0 [] [.asis, .asis] g.N) := by intro args; unfold SS_stringslite_CutSuffix; split; exact .inr fun R k => (by kernel_rfl); exact .inl fun R k => rfl
theorem ok_stringslite_CutSuffix [Fuel] : Ok 171 (SS_stringslite_CutSuffix (@stringslite_CutSuffix _)) := okF_of std (.cons ok_stringslite_HasSuffix .nil) ⟨rfl, rfl, by kernel_rfl, rfl, rfl, rfl⟩ (sm_stringslite_CutSuffix I_stringslite_CutSuffix) (cuts0 (fun _ => rfl) (by kernel_rfl)) Tryz.func171 (by kernel_rfl) (by kernel_rfl)
abbrev T_strings_CutSuffix : Type 1 := List UInt8 → List UInt8 → {R : Type} → (List UInt8 → Bool → Option R) → Option R
structure C_strings_CutSuffix where
 N : Nat
 stringslite_CutSuffix : T_stringslite_CutSuffix
def strings_CutSuffix_ (g : C_strings_CutSuffix) (a1 a2 : List UInt8) {R : Type} (k0 : List UInt8 → Bool → Option R) : Option R :=
 (g.stringslite_CutSuffix a1 a2 (fun r3 r4 => k0 r3 r4))
noncomputable def I_strings_CutSuffix [Fuel] : C_strings_CutSuffix := ⟨NN, @stringslite_CutSuffix _⟩
noncomputable def strings_CutSuffix [Fuel] : T_strings_CutSuffix := @strings_CutSuffix_ I_strings_CutSuffix
def SS_strings_CutSuffix (g : T_strings_CutSuffix) : Spec A := fun args => match args with | [.d (.str a1), .d (.str a2)] => fun k => g a1 a2 (fun z0 z1 => k (.tup [.d (.str z0), .d (.bool z1)]) [.undef, .undef]) | _ => fun _ => none
noncomputable def code_125 : Code := (Tryz.f125.body).getD .skip
noncomputable def E_strings_CutSuffix (g : C_strings_CutSuffix) : Env A := mkE [(171, SS_stringslite_CutSuffix g.stringslite_CutSuffix)] [] [] [] [] [] [] [] [] []
theorem sm_strings_CutSuffix (g : C_strings_CutSuffix) : Same (SS_strings_CutSuffix (@strings_CutSuffix_ g)) (abody (E_strings_CutSuffix g) Tryz.f125 code_125 0 [] [.asis, .asis] g.N) := by intro args; unfold SS_strings_CutSuffix; split; exact .inr fun R k => (by kernel_rfl); exact .inl fun R k => rfl
theorem ok_strings_CutSuffix [Fuel] : Ok 125 (SS_strings_CutSuffix (@strings_CutSuffix _)) := okF_of std (.cons ok_stringslite_CutSuffix .nil) ⟨rfl, rfl, by kernel_rfl, rfl, rfl, rfl⟩ (sm_strings_CutSuffix I_strings_CutSuffix) (cuts0 (fun _ => rfl) (by kernel_rfl)) Tryz.func125 (by kernel_rfl) (by kernel_rfl)
abbrev T_strings_Count : Type 1 := List UInt8 → List UInt8 → {R : Type} → (Int → Option R) → Option R
def strings_Count [Fuel] : T_strings_Count := @X_cnt1
def SS_strings_Count (g : T_strings_Count) : Spec A := SSX_cnt1 g
theorem ok_strings_Count [Fuel] : Ok 216 (SS_strings_Count (@strings_Count _)) := ⟨ssx_cnt1_sound (cnt1_sound (Any.strings_Count_one Tryz.lays138)), ssx_cnt1_nat, enters_of (fn := Tryz.f216) Tryz.func216 (by kernel_rfl) (by kernel_rfl)⟩
abbrev T_strings_genSplit : Type 1 := List UInt8 → List UInt8 → Int → Int → {R : Type} → (List (List UInt8) → Option R) → Option R
structure C_strings_genSplit where
 N : Nat
 strings_Count : T_strings_Count
 strings_Index : T_strings_Index
def strings_genSplit_L11 (g : C_strings_genSplit) : Nat → List UInt8 → List UInt8 → Int → Int → Int → List (List UInt8) → {R : Type} → (List UInt8 → Int → List (List UInt8) → Option R) → Option R
 | 0, _, _, _, _, _, _, _, _ => none
 | n + 1, v6, v7, v8, v9, v10, v11, _, e0 => (bif (decide (v10 < v9)) then (g.strings_Index v6 v7 (fun r14 => (bif (decide (r14 < 0)) then e0 v6 v10 v11 else (bif (decide (0 ≤ (w64 (r14 + v8))) && decide ((w64 (r14 + v8)) ≤ (v6.length : Int))) then (inr v11 v10 (at_ v11 v10 fun x15 => (bif (decide (0 ≤ (w64 (r14 + (v7.length : Int)))) && decide ((w64 (r14 + (v7.length : Int))) ≤ (v6.length : Int))) then strings_genSplit_L11 g n (v6.drop ((w64 (r14 + (v7.length : Int))) : Int).toNat) v7 v8 v9 (w64 (v10 + 1)) (set_ v11 v10 (v6.take ((w64 (r14 + v8)) : Int).toNat)) e0 else none))) else none)))) else e0 v6 v10 v11)
def strings_genSplit_ (g : C_strings_genSplit) (a1 a2 : List UInt8) (a3 a4 : Int) {R : Type} (k0 : List (List UInt8) → Option R) : Option R :=
 (bif (a4 == 0) then k0 [] else (bif (a2 == []) then none else (bif (decide (a4 < 0)) then (g.strings_Count a1 a2 (fun r5 => (bif (decide (0 ≤ (if (w64 ((a1.length : Int) + 1)) < (w64 (r5 + 1)) then (w64 ((a1.length : Int) + 1)) else (w64 (r5 + 1)))) && (decide ((if (w64 ((a1.length : Int) + 1)) < (w64 (r5 + 1)) then (w64 ((a1.length : Int) + 1)) else (w64 (r5 + 1))) ≤ (if (w64 ((a1.length : Int) + 1)) < (w64 (r5 + 1)) then (w64 ((a1.length : Int) + 1)) else (w64 (r5 + 1)))) && decide ((if (w64 ((a1.length : Int) + 1)) < (w64 (r5 + 1)) then (w64 ((a1.length : Int) + 1)) else (w64 (r5 + 1))) * (16 : Nat) ≤ 140737488355328))) then (strings_genSplit_L11 g g.N a1 a2 a3 (w64 ((if (w64 ((a1.length : Int) + 1)) < (w64 (r5 + 1)) then (w64 ((a1.length : Int) + 1)) else (w64 (r5 + 1))) - 1)) 0 (List.replicate ((if (w64 ((a1.length : Int) + 1)) < (w64 (r5 + 1)) then (w64 ((a1.length : Int) + 1)) else (w64 (r5 + 1))) : Int).toNat []) (fun e16 e17 e18 => (inr e18 e17 (at_ e18 e17 fun x19 => (bif (decide (0 ≤ (w64 (e17 + 1))) && decide ((w64 (e17 + 1)) ≤ ((set_ e18 e17 e16).length : Int))) then k0 ((set_ e18 e17 e16).take ((w64 (e17 + 1)) : Int).toNat) else none))))) else none))) else (bif (decide (0 ≤ (if (w64 ((a1.length : Int) + 1)) < a4 then (w64 ((a1.length : Int) + 1)) else a4)) && (decide ((if (w64 ((a1.length : Int) + 1)) < a4 then (w64 ((a1.length : Int) + 1)) else a4) ≤ (if (w64 ((a1.length : Int) + 1)) < a4 then (w64 ((a1.length : Int) + 1)) else a4)) && decide ((if (w64 ((a1.length : Int) + 1)) < a4 then (w64 ((a1.length : Int) + 1)) else a4) * (16 : Nat) ≤ 140737488355328))) then (strings_genSplit_L11 g g.N a1 a2 a3 (w64 ((if (w64 ((a1.length : Int) + 1)) < a4 then (w64 ((a1.length : Int) + 1)) else a4) - 1)) 0 (List.replicate ((if (w64 ((a1.length : Int) + 1)) < a4 then (w64 ((a1.length : Int) + 1)) else a4) : Int).toNat []) (fun e20 e21 e22 => (inr e22 e21 (at_ e22 e21 fun x23 => (bif (decide (0 ≤ (w64 (e21 + 1))) && decide ((w64 (e21 + 1)) ≤ ((set_ e22 e21 e20).length : Int))) then k0 ((set_ e22 e21 e20).take ((w64 (e21 + 1)) : Int).toNat) else none))))) else none))))
noncomputable def I_strings_genSplit [Fuel] : C_strings_genSplit := ⟨NN, @strings_Count _, @strings_Index _⟩
noncomputable def strings_genSplit [Fuel] : T_strings_genSplit := @strings_genSplit_ I_strings_genSplit
def SS_strings_genSplit (g : T_strings_genSplit) : Spec A := fun args => match args with | [.d (.str a1), .d (.str a2), .d (.int .i64 a3), .d (.int .i64 a4)] => fun k => g a1 a2 a3 a4 (fun z0 => k (.arr 9 z0) [.undef, .undef, .undef, .undef]) | _ => fun _ => none
def sh_strings_genSplit_L11 : SSt := mkSh 66 2 [(0, .str), (1, .str), (2, .int .i64), (3, .int .i64), (9, .own 9 0), (10, .int .i64)] [(0, .row 9)]
def LP_strings_genSplit_L11 (g : C_strings_genSplit) (n : Nat) : LPT A := fun ps => match ps with | [.d (.str p1), .d (.str p2), .d (.int .i64 p3), .d (.int .i64 p4), .d (.int .i64 p5), .d (.sl 9 p6)] => fun K => strings_genSplit_L11 g n p1 p2 p3 p4 p5 p6 (fun z0 z1 z2 => K (.exit 0) (mkSt 66 2 [(0, .d (.str z0)), (9, .own 9 0), (10, .d (.int .i64 z1))] [(0, some (.row 9 z2))])) | _ => fun _ => none
noncomputable def code_172 : Code := (Tryz.f172.body).getD .skip
noncomputable def E_strings_genSplit (g : C_strings_genSplit) : Env A := mkE [(216, SS_strings_Count g.strings_Count), (217, SS_strings_Index g.strings_Index)] [(31, [0]), (65, [1])] [(11, ⟨[0, 1, 2, 3, 9, 10], [], [0], [], [], [], []⟩)] [(11, ⟨[0, 9, 10], [], [0], [], [], [], []⟩)] [(11, pieceOf sh_strings_genSplit_L11 (LP_strings_genSplit_L11 g g.N))] [] [] [] [] []
theorem ct_strings_genSplit [Fuel] : NatTab (E_strings_genSplit I_strings_genSplit).C := ct_of (P := Tryz.prog) (T := T) (.cons ok_strings_Count (.cons ok_strings_Index .nil)) (by kernel_rfl)
noncomputable def cb_strings_genSplit_L11 : Code := sub [1, 1, 1, 1, 1, 1, 1, 1, 0, 0, 0] code_172
theorem s_strings_genSplit_L11 (g : C_strings_genSplit) (n : Nat) : StepOk (E_strings_genSplit g) g.N cb_strings_genSplit_L11 sh_strings_genSplit_L11 (LP_strings_genSplit_L11 g) n := by intro ps; unfold LP_strings_genSplit_L11; split; exact .inr fun R K => (by kernel_rfl); exact .inl fun R K => rfl
theorem lf_strings_genSplit_L11 [Fuel] : LoopFine (E_strings_genSplit I_strings_genSplit) NN cb_strings_genSplit_L11 := fine_loop sh_strings_genSplit_L11 (LP_strings_genSplit_L11 I_strings_genSplit) (by kernel_rfl) ct_strings_genSplit (cuts0 (fun _ => rfl) (by kernel_rfl)) (fun ps R K => by unfold LP_strings_genSplit_L11; split <;> (try unfold strings_genSplit_L11) <;> rfl) (s_strings_genSplit_L11 I_strings_genSplit)
theorem sm_strings_genSplit (g : C_strings_genSplit) : Same (SS_strings_genSplit (@strings_genSplit_ g)) (abody (E_strings_genSplit g) Tryz.f172 code_172 2 [] [.arr 9] g.N) := by intro args; unfold SS_strings_genSplit; split; exact .inr fun R k => (by kernel_rfl); exact .inl fun R k => rfl
theorem ok_strings_genSplit [Fuel] : Ok 172 (SS_strings_genSplit (@strings_genSplit _)) := okF_of std (.cons ok_strings_Count (.cons ok_strings_Index .nil)) ⟨rfl, rfl, by kernel_rfl, rfl, rfl, rfl⟩ (sm_strings_genSplit I_strings_genSplit) (cutsL (fun _ => rfl) (.cons lf_strings_genSplit_L11 .nil) (by kernel_rfl)) Tryz.func172 (by kernel_rfl) (by kernel_rfl)
abbrev T_strings_Split : Type 1 := List UInt8 → List UInt8 → {R : Type} → (List (List UInt8) → Option R) → Option R
structure C_strings_Split where
 N : Nat
 strings_genSplit : T_strings_genSplit
def strings_Split_ (g : C_strings_Split) (a1 a2 : List UInt8) {R : Type} (k0 : List (List UInt8) → Option R) : Option R :=
 (g.strings_genSplit a1 a2 0 (-1) (fun r3 => k0 r3))
noncomputable def I_strings_Split [Fuel] : C_strings_Split := ⟨NN, @strings_genSplit _⟩
noncomputable def strings_Split [Fuel] : T_strings_Split := @strings_Split_ I_strings_Split
def SS_strings_Split (g : T_strings_Split) : Spec A := fun args => match args with | [.d (.str a1), .d (.str a2)] => fun k => g a1 a2 (fun z0 => k (.arr 9 z0) [.undef, .undef]) | _ => fun _ => none
noncomputable def code_126 : Code := (Tryz.f126.body).getD .skip
noncomputable def E_strings_Split (g : C_strings_Split) : Env A := mkE [(172, SS_strings_genSplit g.strings_genSplit)] [(7, [0])] [] [] [] [] [] [] [] []
theorem sm_strings_Split (g : C_strings_Split) : Same (SS_strings_Split (@strings_Split_ g)) (abody (E_strings_Split g) Tryz.f126 code_126 1 [] [.arr 9] g.N) := by intro args; unfold SS_strings_Split; split; exact .inr fun R k => (by kernel_rfl); exact .inl fun R k => rfl
theorem ok_strings_Split [Fuel] : Ok 126 (SS_strings_Split (@strings_Split _)) := okF_of std (.cons ok_strings_genSplit .nil) ⟨rfl, rfl, by kernel_rfl, rfl, rfl, rfl⟩ (sm_strings_Split I_strings_Split) (cuts0 (fun _ => rfl) (by kernel_rfl)) Tryz.func126 (by kernel_rfl) (by kernel_rfl)
abbrev T_kit_Lines : Type 1 := List UInt8 → {R : Type} → (List (List UInt8) → Bool → Option R) → Option R
structure C_kit_Lines where
 N : Nat
 strings_CutSuffix : T_strings_CutSuffix
 strings_Split : T_strings_Split
def kit_Lines_ (g : C_kit_Lines) (a1 : List UInt8) {R : Type} (k0 : List (List UInt8) → Bool → Option R) : Option R :=
 (bif (a1 == []) then k0 [] true else (g.strings_CutSuffix a1 [10] (fun r2 r3 => (g.strings_Split r2 [10] (fun r4 => k0 r4 r3)))))
noncomputable def I_kit_Lines [Fuel] : C_kit_Lines := ⟨NN, @strings_CutSuffix _, @strings_Split _⟩
noncomputable def kit_Lines [Fuel] : T_kit_Lines := @kit_Lines_ I_kit_Lines
def SS_kit_Lines (g : T_kit_Lines) : Spec A := fun args => match args with | [.d (.str a1)] => fun k => g a1 (fun z0 z1 => k (.tup [.arr 9 z0, .d (.bool z1)]) [.undef]) | _ => fun _ => none
noncomputable def code_60 : Code := (Tryz.f60.body).getD .skip
noncomputable def E_kit_Lines (g : C_kit_Lines) : Env A := mkE [(125, SS_strings_CutSuffix g.strings_CutSuffix), (126, SS_strings_Split g.strings_Split)] [(14, [0])] [] [] [] [] [] [] [] []
theorem sm_kit_Lines (g : C_kit_Lines) : Same (SS_kit_Lines (@kit_Lines_ g)) (abody (E_kit_Lines g) Tryz.f60 code_60 1 [] [.arr 9, .asis] g.N) := by intro args; unfold SS_kit_Lines; split; exact .inr fun R k => (by kernel_rfl); exact .inl fun R k => rfl
theorem ok_kit_Lines [Fuel] : Ok 60 (SS_kit_Lines (@kit_Lines _)) := okF_of std (.cons ok_strings_CutSuffix (.cons ok_strings_Split .nil)) ⟨rfl, rfl, by kernel_rfl, rfl, rfl, rfl⟩ (sm_kit_Lines I_kit_Lines) (cuts0 (fun _ => rfl) (by kernel_rfl)) Tryz.func60 (by kernel_rfl) (by kernel_rfl)
abbrev T_kit_Words : Type 1 := List UInt8 → {R : Type} → (List (List UInt8) → Bool → Option R) → Option R
structure C_kit_Words where
 N : Nat
 strings_Split : T_strings_Split
def kit_Words_L3 (g : C_kit_Words) : Nat → Int → Int → List (List UInt8) → {R : Type} → (Bool → List (List UInt8) → Option R) → (List (List UInt8) → Option R) → Option R
 | 0, _, _, _, _, _, _ => none
 | n + 1, v3, v4, v5, _, e0, e1 => (bif (decide (v4 < v3)) then (inr v5 v4 (at_ v5 v4 fun x7 => (bif (x7 == []) then e0 false v5 else kit_Words_L3 g n v3 (w64 (v4 + 1)) v5 e0 e1))) else e1 v5)
def kit_Words_ (g : C_kit_Words) (a1 : List UInt8) {R : Type} (k0 : List (List UInt8) → Bool → Option R) : Option R :=
 (g.strings_Split a1 [32] (fun r2 => (kit_Words_L3 g g.N (r2.length : Int) 0 r2 (fun e8 e9 => k0 [] e8) (fun e10 => k0 e10 true))))
noncomputable def I_kit_Words [Fuel] : C_kit_Words := ⟨NN, @strings_Split _⟩
noncomputable def kit_Words [Fuel] : T_kit_Words := @kit_Words_ I_kit_Words
def SS_kit_Words (g : T_kit_Words) : Spec A := fun args => match args with | [.d (.str a1)] => fun k => g a1 (fun z0 z1 => k (.tup [.arr 9 z0, .d (.bool z1)]) [.undef]) | _ => fun _ => none
def sh_kit_Words_L3 : SSt := mkSh 19 1 [(4, .own 9 0), (9, .own 9 0), (10, .int .i64), (11, .int .i64)] [(0, .row 9)]
def LP_kit_Words_L3 (g : C_kit_Words) (n : Nat) : LPT A := fun ps => match ps with | [.d (.int .i64 p1), .d (.int .i64 p2), .d (.sl 9 p3)] => fun K => kit_Words_L3 g n p1 p2 p3 (fun z0 z1 => K .ret (mkSt 19 1 [(2, .d .nsl), (3, .d (.bool z0)), (4, .own 9 0)] [(0, some (.row 9 z1))])) (fun z0 => K (.exit 0) (mkSt 19 1 [(4, .own 9 0)] [(0, some (.row 9 z0))])) | _ => fun _ => none
noncomputable def code_61 : Code := (Tryz.f61.body).getD .skip
noncomputable def E_kit_Words (g : C_kit_Words) : Env A := mkE [(126, SS_strings_Split g.strings_Split)] [(8, [0])] [(3, ⟨[4, 9, 10, 11], [], [0], [], [], [], []⟩)] [(3, ⟨[2, 3, 4], [], [0], [], [], [], []⟩)] [(3, pieceOf sh_kit_Words_L3 (LP_kit_Words_L3 g g.N))] [] [] [] [] []
theorem ct_kit_Words [Fuel] : NatTab (E_kit_Words I_kit_Words).C := ct_of (P := Tryz.prog) (T := T) (.cons ok_strings_Split .nil) (by kernel_rfl)
noncomputable def cb_kit_Words_L3 : Code := sub [1, 1, 0, 1, 0, 0] code_61
theorem s_kit_Words_L3 (g : C_kit_Words) (n : Nat) : StepOk (E_kit_Words g) g.N cb_kit_Words_L3 sh_kit_Words_L3 (LP_kit_Words_L3 g) n := by intro ps; unfold LP_kit_Words_L3; split; exact .inr fun R K => (by kernel_rfl); exact .inl fun R K => rfl
theorem lf_kit_Words_L3 [Fuel] : LoopFine (E_kit_Words I_kit_Words) NN cb_kit_Words_L3 := fine_loop sh_kit_Words_L3 (LP_kit_Words_L3 I_kit_Words) (by kernel_rfl) ct_kit_Words (cuts0 (fun _ => rfl) (by kernel_rfl)) (fun ps R K => by unfold LP_kit_Words_L3; split <;> (try unfold kit_Words_L3) <;> rfl) (s_kit_Words_L3 I_kit_Words)
theorem sm_kit_Words (g : C_kit_Words) : Same (SS_kit_Words (@kit_Words_ g)) (abody (E_kit_Words g) Tryz.f61 code_61 1 [] [.arr 9, .asis] g.N) := by intro args; unfold SS_kit_Words; split; exact .inr fun R k => (by kernel_rfl); exact .inl fun R k => rfl
theorem ok_kit_Words [Fuel] : Ok 61 (SS_kit_Words (@kit_Words _)) := okF_of std (.cons ok_strings_Split .nil) ⟨rfl, rfl, by kernel_rfl, rfl, rfl, rfl⟩ (sm_kit_Words I_kit_Words) (cutsL (fun _ => rfl) (.cons lf_kit_Words_L3 .nil) (by kernel_rfl)) Tryz.func61 (by kernel_rfl) (by kernel_rfl)
abbrev T_slices_Index__string : Type 1 := List (List UInt8) → List UInt8 → {R : Type} → (Int → Option R) → Option R
def slices_Index__string_L2 (g : Nat) : Nat → List (List UInt8) → List UInt8 → Int → Int → {R : Type} → (Int → Option R) → Option R → Option R
 | 0, _, _, _, _, _, _, _ => none
 | n + 1, v3, v4, v5, v6, _, e0, e1 => (bif (decide (v6 < v5)) then (get_ v3 v6 fun x8 => (bif (v4 == x8) then e0 v6 else slices_Index__string_L2 g n v3 v4 v5 (w64 (v6 + 1)) e0 e1)) else e1)
def slices_Index__string_ (g : Nat) (a1 : List (List UInt8)) (a2 : List UInt8) {R : Type} (k0 : Int → Option R) : Option R :=
 (slices_Index__string_L2 g g a1 a2 (a1.length : Int) 0 (fun e9 => k0 e9) (k0 (-1)))
noncomputable def slices_Index__string [Fuel] : T_slices_Index__string := @slices_Index__string_ NN
def SS_slices_Index__string (g : T_slices_Index__string) : Spec A := fun args => match args with | [.d (.sl 9 a1), .d (.str a2)] => fun k => g a1 a2 (fun z0 => k (.d (.int .i64 z0)) [.undef, .undef]) | _ => fun _ => none
def sh_slices_Index__string_L2 : SSt := mkSh 19 0 [(0, .sl 9), (1, .str), (7, .int .i64), (8, .int .i64)] []
def LP_slices_Index__string_L2 (g : Nat) (n : Nat) : LPT A := fun ps => match ps with | [.d (.sl 9 p1), .d (.str p2), .d (.int .i64 p3), .d (.int .i64 p4)] => fun K => slices_Index__string_L2 g n p1 p2 p3 p4 (fun z0 => K .ret (mkSt 19 0 [(4, .d (.int .i64 z0))] [])) (K (.exit 0) (mkSt 19 0 [] [])) | _ => fun _ => none
noncomputable def code_92 : Code := (Tryz.f92.body).getD .skip
noncomputable def E_slices_Index__string (g : Nat) : Env A := mkE [] [] [(2, ⟨[0, 1, 7, 8], [], [], [], [], [], []⟩)] [(2, ⟨[4], [], [], [], [], [], []⟩)] [(2, pieceOf sh_slices_Index__string_L2 (LP_slices_Index__string_L2 g g))] [] [] [] [] []
theorem ct_slices_Index__string [Fuel] : NatTab (E_slices_Index__string NN).C := ct_of (P := Tryz.prog) (T := T) .nil (by kernel_rfl)
noncomputable def cb_slices_Index__string_L2 : Code := sub [1, 0, 1, 0, 0] code_92
theorem s_slices_Index__string_L2 (g : Nat) (n : Nat) : StepOk (E_slices_Index__string g) g cb_slices_Index__string_L2 sh_slices_Index__string_L2 (LP_slices_Index__string_L2 g) n := by intro ps; unfold LP_slices_Index__string_L2; split; exact .inr fun R K => (by kernel_rfl); exact .inl fun R K => rfl
theorem lf_slices_Index__string_L2 [Fuel] : LoopFine (E_slices_Index__string NN) NN cb_slices_Index__string_L2 := fine_loop sh_slices_Index__string_L2 (LP_slices_Index__string_L2 NN) (by kernel_rfl) ct_slices_Index__string (cuts0 (fun _ => rfl) (by kernel_rfl)) (fun ps R K => by unfold LP_slices_Index__string_L2; split <;> (try unfold slices_Index__string_L2) <;> rfl) (s_slices_Index__string_L2 NN)
theorem sm_slices_Index__string (g : Nat) : Same (SS_slices_Index__string (@slices_Index__string_ g)) (abody (E_slices_Index__string g) Tryz.f92 code_92 0 [] [.asis] g) := by intro args; unfold SS_slices_Index__string; split; exact .inr fun R k => (by kernel_rfl); exact .inl fun R k => rfl
theorem ok_slices_Index__string [Fuel] : Ok 92 (SS_slices_Index__string (@slices_Index__string _)) := okF_of std .nil ⟨rfl, rfl, by kernel_rfl, rfl, rfl, rfl⟩ (sm_slices_Index__string NN) (cutsL (fun _ => rfl) (.cons lf_slices_Index__string_L2 .nil) (by kernel_rfl)) Tryz.func92 (by kernel_rfl) (by kernel_rfl)
abbrev T_stringslite_HasPrefix : Type 1 := List UInt8 → List UInt8 → {R : Type} → (Bool → Option R) → Option R
def stringslite_HasPrefix_ (g : Nat) (a1 a2 : List UInt8) {R : Type} (k0 : Bool → Option R) : Option R :=
 (bif (decide ((a1.length : Int) ≥ (a2.length : Int))) then (bif (decide (0 ≤ (a2.length : Int)) && decide ((a2.length : Int) ≤ (a1.length : Int))) then k0 ((a1.take ((a2.length : Int) : Int).toNat) == a2) else none) else k0 false)
noncomputable def stringslite_HasPrefix [Fuel] : T_stringslite_HasPrefix := @stringslite_HasPrefix_ NN
def SS_stringslite_HasPrefix (g : T_stringslite_HasPrefix) : Spec A := fun args => match args with | [.d (.str a1), .d (.str a2)] => fun k => g a1 a2 (fun z0 => k (.d (.bool z0)) [.undef, .undef]) | _ => fun _ => none
noncomputable def code_240 : Code := (Tryz.f240.body).getD .skip
noncomputable def E_stringslite_HasPrefix (g : Nat) : Env A := mkE [] [] [] [] [] [] [] [] [] []
theorem sm_stringslite_HasPrefix (g : Nat) : Same (SS_stringslite_HasPrefix (@stringslite_HasPrefix_ g)) (abody (E_stringslite_HasPrefix g) Tryz.f240 code_240 0 [] [.asis] g) := by intro args; unfold SS_stringslite_HasPrefix; split; exact .inr fun R k => (by kernel_rfl); exact .inl fun R k => rfl
theorem ok_stringslite_HasPrefix [Fuel] : Ok 240 (SS_stringslite_HasPrefix (@stringslite_HasPrefix _)) := okF_of std .nil ⟨rfl, rfl, by kernel_rfl, rfl, rfl, rfl⟩ (sm_stringslite_HasPrefix NN) (cuts0 (fun _ => rfl) (by kernel_rfl)) Tryz.func240 (by kernel_rfl) (by kernel_rfl)
abbrev T_stringslite_CutPrefix : Type 1 := List UInt8 → List UInt8 → {R : Type} → (List UInt8 → Bool → Option R) → Option R
structure C_stringslite_CutPrefix where
 N : Nat
 stringslite_HasPrefix : T_stringslite_HasPrefix
def stringslite_CutPrefix_ (g : C_stringslite_CutPrefix) (a1 a2 : List UInt8) {R : Type} (k0 : List UInt8 → Bool → Option R) : Option R :=
 (g.stringslite_HasPrefix a1 a2 (fun r3 => (bif (!r3) then k0 a1 false else (bif (decide (0 ≤ (a2.length : Int)) && decide ((a2.length : Int) ≤ (a1.length : Int))) then k0 (a1.drop ((a2.length : Int) : Int).toNat) true else none))))
noncomputable def I_stringslite_CutPrefix [Fuel] : C_stringslite_CutPrefix := ⟨NN, @stringslite_HasPrefix _⟩
noncomputable def stringslite_CutPrefix [Fuel] : T_stringslite_CutPrefix := @stringslite_CutPrefix_ I_stringslite_CutPrefix
def SS_stringslite_CutPrefix (g : T_stringslite_CutPrefix) : Spec A := fun args => match args with | [.d (.str a1), .d (.str a2)] => fun k => g a1 a2 (fun z0 z1 => k (.tup [.d (.str z0), .d (.bool z1)]) [.undef, .undef]) | _ => fun _ => none
noncomputable def code_251 : Code := (Tryz.f251.body).getD .skip
noncomputable def E_stringslite_CutPrefix (g : C_stringslite_CutPrefix) : Env A := mkE [(240, SS_stringslite_HasPrefix g.stringslite_HasPrefix)] [] [] [] [] [] [] [] [] []
theorem sm_stringslite_CutPrefix (g : C_stringslite_CutPrefix) : Same (SS_stringslite_CutPrefix (@stringslite_CutPrefix_ g)) (abody (E_stringslite_CutPrefix g) Tryz.f251 code_251 0 [] [.asis, .asis] g.N) := by intro args; unfold SS_stringslite_CutPrefix; split; exact .inr fun R k => (by kernel_rfl); exact .inl fun R k => rfl
theorem ok_stringslite_CutPrefix [Fuel] : Ok 251 (SS_stringslite_CutPrefix (@stringslite_CutPrefix _)) := okF_of std (.cons ok_stringslite_HasPrefix .nil) ⟨rfl, rfl, by kernel_rfl, rfl, rfl, rfl⟩ (sm_stringslite_CutPrefix I_stringslite_CutPrefix) (cuts0 (fun _ => rfl) (by kernel_rfl)) Tryz.func251 (by kernel_rfl) (by kernel_rfl)
abbrev T_strings_CutPrefix : Type 1 := List UInt8 → List UInt8 → {R : Type} → (List UInt8 → Bool → Option R) → Option R
structure C_strings_CutPrefix where
 N : Nat
 stringslite_CutPrefix : T_stringslite_CutPrefix
def strings_CutPrefix_ (g : C_strings_CutPrefix) (a1 a2 : List UInt8) {R : Type} (k0 : List UInt8 → Bool → Option R) : Option R :=
 (g.stringslite_CutPrefix a1 a2 (fun r3 r4 => k0 r3 r4))
noncomputable def I_strings_CutPrefix [Fuel] : C_strings_CutPrefix := ⟨NN, @stringslite_CutPrefix _⟩
noncomputable def strings_CutPrefix [Fuel] : T_strings_CutPrefix := @strings_CutPrefix_ I_strings_CutPrefix
def SS_strings_CutPrefix (g : T_strings_CutPrefix) : Spec A := fun args => match args with | [.d (.str a1), .d (.str a2)] => fun k => g a1 a2 (fun z0 z1 => k (.tup [.d (.str z0), .d (.bool z1)]) [.undef, .undef]) | _ => fun _ => none
noncomputable def code_195 : Code := (Tryz.f195.body).getD .skip
noncomputable def E_strings_CutPrefix (g : C_strings_CutPrefix) : Env A := mkE [(251, SS_stringslite_CutPrefix g.stringslite_CutPrefix)] [] [] [] [] [] [] [] [] []
theorem sm_strings_CutPrefix (g : C_strings_CutPrefix) : Same (SS_strings_CutPrefix (@strings_CutPrefix_ g)) (abody (E_strings_CutPrefix g) Tryz.f195 code_195 0 [] [.asis, .asis] g.N) := by intro args; unfold SS_strings_CutPrefix; split; exact .inr fun R k => (by kernel_rfl); exact .inl fun R k => rfl
theorem ok_strings_CutPrefix [Fuel] : Ok 195 (SS_strings_CutPrefix (@strings_CutPrefix _)) := okF_of std (.cons ok_stringslite_CutPrefix .nil) ⟨rfl, rfl, by kernel_rfl, rfl, rfl, rfl⟩ (sm_strings_CutPrefix I_strings_CutPrefix) (cuts0 (fun _ => rfl) (by kernel_rfl)) Tryz.func195 (by kernel_rfl) (by kernel_rfl)
abbrev T_strconv_Atoi : Type 1 := List UInt8 → {R : Type} → (Int → Option R) → Option R
def strconv_Atoi [Fuel] : T_strconv_Atoi := @X_atoi
def SS_strconv_Atoi (g : T_strconv_Atoi) : Spec A := SSX_atoi g
theorem ok_strconv_Atoi [Fuel] : Ok 144 (SS_strconv_Atoi (@strconv_Atoi _)) := ⟨ssx_atoi_sound (atoi_sound rfl (fun s n w h0 h1 => (Any.strconv_Atoi Tryz.lays172 s n h0 h1 w).mono (fun e w h => ⟨h.1, _, h.2⟩))), ssx_atoi_nat, enters_of (fn := Tryz.f144) Tryz.func144 (by kernel_rfl) (by kernel_rfl)⟩
end Go.Am
