/- The functions of the program as Lean functions, each shown to be what the code computes, part 6. No condition: lemmas for the claim. -/
import Derived.Test.YtoajjnhmofegcaaGreatDoorF0
import Derived.Test.YtoajjnhmofegcaaGreatDoorFSh
import Derived.Test.YtoajjnhmofegcaaGreatDoorF2
import Derived.Test.YtoajjnhmofegcaaGreatDoorF3
import Derived.Test.YtoajjnhmofegcaaGreatDoorF4
import Derived.Test.YtoajjnhmofegcaaGreatDoorF5
set_option linter.unusedVariables false
set_option maxRecDepth 100000
namespace Go.Am
open Go Go.Proofs
abbrev T_kit_Number : Type 1 := List UInt8 → Int → {R : Type} → (Int → Bool → Option R) → Option R
structure C_kit_Number where
 N : Nat
 strconv_Atoi : T_strconv_Atoi
 strings_Trim : T_strings_Trim
 strings_CutPrefix : T_strings_CutPrefix
def kit_Number_ (g : C_kit_Number) (a1 : List UInt8) (a2 : Int) {R : Type} (k0 : Int → Bool → Option R) : Option R :=
 (g.strings_CutPrefix a1 [45] (fun r3 r4 => (bif (r3 == []) then k0 0 false else (bif (decide ((r3.length : Int) > a2)) then k0 0 false else (g.strings_Trim r3 [48, 49, 50, 51, 52, 53, 54, 55, 56, 57] (fun r5 => (bif (!(r5 == [])) then k0 0 false else (at_ r3 0 fun x6 => (bif ((x6.toNat : Int) == 48) then (bif (decide ((r3.length : Int) > 1)) then k0 0 false else (bif r4 then k0 0 false else (g.strconv_Atoi r3 (fun r7 => (bif r4 then k0 (w64 (0 - r7)) true else k0 r7 true))))) else (g.strconv_Atoi r3 (fun r8 => (bif r4 then k0 (w64 (0 - r8)) true else k0 r8 true))))))))))))
noncomputable def I_kit_Number [Fuel] : C_kit_Number := ⟨NN, @strconv_Atoi _, @strings_Trim _, @strings_CutPrefix _⟩
noncomputable def kit_Number [Fuel] : T_kit_Number := @kit_Number_ I_kit_Number
def SS_kit_Number (g : T_kit_Number) : Spec A := fun args => match args with | [.d (.str a1), .d (.int .i64 a2)] => fun k => g a1 a2 (fun z0 z1 => k (.tup [.d (.int .i64 z0), .d (.bool z1)]) [.undef, .undef]) | _ => fun _ => none
noncomputable def code_151 : Code := (Tryz.f151.body).getD .skip
noncomputable def E_kit_Number (g : C_kit_Number) : Env A := mkE [(144, SS_strconv_Atoi g.strconv_Atoi), (179, SS_strings_Trim g.strings_Trim), (195, SS_strings_CutPrefix g.strings_CutPrefix)] [] [] [] [] [] [] [] [] []
theorem sm_kit_Number (g : C_kit_Number) : Same (SS_kit_Number (@kit_Number_ g)) (abody (E_kit_Number g) Tryz.f151 code_151 0 [] [.asis, .asis] g.N) := by intro args; unfold SS_kit_Number; split; exact .inr fun R k => (by kernel_rfl); exact .inl fun R k => rfl
theorem ok_kit_Number [Fuel] : Ok 151 (SS_kit_Number (@kit_Number _)) := okF_of std (.cons ok_strconv_Atoi (.cons ok_strings_Trim (.cons ok_strings_CutPrefix .nil))) ⟨rfl, rfl, by kernel_rfl, rfl, rfl, rfl⟩ (sm_kit_Number I_kit_Number) (cuts0 (fun _ => rfl) (by kernel_rfl)) Tryz.func151 (by kernel_rfl) (by kernel_rfl)
abbrev T_kit_Numbers : Type 1 := List (List UInt8) → {R : Type} → (List Int → Bool → Option R) → Option R
structure C_kit_Numbers where
 N : Nat
 kit_Number : T_kit_Number
def kit_Numbers_L3 (g : C_kit_Numbers) : Nat → List (List UInt8) → Int → Int → List Int → {R : Type} → (Bool → List Int → Option R) → (List Int → Option R) → Option R
 | 0, _, _, _, _, _, _, _ => none
 | n + 1, v2, v3, v4, v5, _, e0, e1 => (bif (decide (v4 < v3)) then (get_ v2 v4 fun x9 => (g.kit_Number x9 15 (fun r10 r11 => (bif (!r11) then e0 false v5 else (bif (decide ((v5.length + [r10].length) * 8 ≤ roomBytes')) then kit_Numbers_L3 g n v2 v3 (w64 (v4 + 1)) (v5 ++ [r10]) e0 e1 else none))))) else e1 v5)
def kit_Numbers_ (g : C_kit_Numbers) (a1 : List (List UInt8)) {R : Type} (k0 : List Int → Bool → Option R) : Option R :=
 (kit_Numbers_L3 g g.N a1 (a1.length : Int) 0 [] (fun e12 e13 => k0 [] e12) (fun e14 => k0 e14 true))
noncomputable def I_kit_Numbers [Fuel] : C_kit_Numbers := ⟨NN, @kit_Number _⟩
noncomputable def kit_Numbers [Fuel] : T_kit_Numbers := @kit_Numbers_ I_kit_Numbers
def SS_kit_Numbers (g : T_kit_Numbers) : Spec A := fun args => match args with | [.d (.sl 9 a1)] => fun k => g a1 (fun z0 z1 => k (.tup [.arr 3 z0, .d (.bool z1)]) [.undef]) | _ => fun _ => none
def sh_kit_Numbers_L3 : SSt := mkSh 28 3 [(4, .own 3 0), (9, .sl 9), (10, .int .i64), (11, .int .i64)] [(0, .row 3)]
def LP_kit_Numbers_L3 (g : C_kit_Numbers) (n : Nat) : LPT A := fun ps => match ps with | [.d (.sl 9 p1), .d (.int .i64 p2), .d (.int .i64 p3), .d (.sl 3 p4)] => fun K => kit_Numbers_L3 g n p1 p2 p3 p4 (fun z0 z1 => K .ret (mkSt 28 3 [(2, .d .nsl), (3, .d (.bool z0)), (4, .own 3 0)] [(0, some (.row 3 z1))])) (fun z0 => K (.exit 0) (mkSt 28 3 [(4, .own 3 0)] [(0, some (.row 3 z0))])) | _ => fun _ => none
noncomputable def code_100 : Code := (Tryz.f100.body).getD .skip
noncomputable def E_kit_Numbers (g : C_kit_Numbers) : Env A := mkE [(151, SS_kit_Number g.kit_Number)] [(24, [1]), (25, [2])] [(3, ⟨[4, 9, 10, 11], [(4, 3, 0)], [], [], [], [], []⟩)] [(3, ⟨[2, 3, 4], [], [0], [], [], [], []⟩)] [(3, pieceOf sh_kit_Numbers_L3 (LP_kit_Numbers_L3 g g.N))] [] [] [] [] []
theorem ct_kit_Numbers [Fuel] : NatTab (E_kit_Numbers I_kit_Numbers).C := ct_of (P := Tryz.prog) (T := T) (.cons ok_kit_Number .nil) (by kernel_rfl)
noncomputable def cb_kit_Numbers_L3 : Code := sub [1, 1, 0, 1, 0, 0] code_100
theorem s_kit_Numbers_L3 (g : C_kit_Numbers) (n : Nat) : StepOk (E_kit_Numbers g) g.N cb_kit_Numbers_L3 sh_kit_Numbers_L3 (LP_kit_Numbers_L3 g) n := by intro ps; unfold LP_kit_Numbers_L3; split; exact .inr fun R K => (by kernel_rfl); exact .inl fun R K => rfl
theorem lf_kit_Numbers_L3 [Fuel] : LoopFine (E_kit_Numbers I_kit_Numbers) NN cb_kit_Numbers_L3 := fine_loop sh_kit_Numbers_L3 (LP_kit_Numbers_L3 I_kit_Numbers) (by kernel_rfl) ct_kit_Numbers (cuts0 (fun _ => rfl) (by kernel_rfl)) (fun ps R K => by unfold LP_kit_Numbers_L3; split <;> (try unfold kit_Numbers_L3) <;> rfl) (s_kit_Numbers_L3 I_kit_Numbers)
theorem sm_kit_Numbers (g : C_kit_Numbers) : Same (SS_kit_Numbers (@kit_Numbers_ g)) (abody (E_kit_Numbers g) Tryz.f100 code_100 3 [] [.arr 3, .asis] g.N) := by intro args; unfold SS_kit_Numbers; split; exact .inr fun R k => (by kernel_rfl); exact .inl fun R k => rfl
theorem ok_kit_Numbers [Fuel] : Ok 100 (SS_kit_Numbers (@kit_Numbers _)) := okF_of std (.cons ok_kit_Number .nil) ⟨rfl, rfl, by kernel_rfl, rfl, rfl, rfl⟩ (sm_kit_Numbers I_kit_Numbers) (cutsL (fun _ => rfl) (.cons lf_kit_Numbers_L3 .nil) (by kernel_rfl)) Tryz.func100 (by kernel_rfl) (by kernel_rfl)
abbrev T_kit_Undash : Type 1 := List UInt8 → {R : Type} → (List UInt8 → Option R) → Option R
def kit_Undash_ (g : Nat) (a1 : List UInt8) {R : Type} (k0 : List UInt8 → Option R) : Option R :=
 (bif (a1 == [45]) then k0 [] else k0 a1)
noncomputable def kit_Undash [Fuel] : T_kit_Undash := @kit_Undash_ NN
def SS_kit_Undash (g : T_kit_Undash) : Spec A := fun args => match args with | [.d (.str a1)] => fun k => g a1 (fun z0 => k (.d (.str z0)) [.undef]) | _ => fun _ => none
noncomputable def code_127 : Code := (Tryz.f127.body).getD .skip
noncomputable def E_kit_Undash (g : Nat) : Env A := mkE [] [] [] [] [] [] [] [] [] []
theorem sm_kit_Undash (g : Nat) : Same (SS_kit_Undash (@kit_Undash_ g)) (abody (E_kit_Undash g) Tryz.f127 code_127 0 [] [.asis] g) := by intro args; unfold SS_kit_Undash; split; exact .inr fun R k => (by kernel_rfl); exact .inl fun R k => rfl
theorem ok_kit_Undash [Fuel] : Ok 127 (SS_kit_Undash (@kit_Undash _)) := okF_of std .nil ⟨rfl, rfl, by kernel_rfl, rfl, rfl, rfl⟩ (sm_kit_Undash NN) (cuts0 (fun _ => rfl) (by kernel_rfl)) Tryz.func127 (by kernel_rfl) (by kernel_rfl)
abbrev T_log_ReadWords : Type 1 := List (List UInt8) → {R : Type} → (G_Contact → Bool → Option R) → Option R
structure C_log_ReadWords where
 N : Nat
 kit_ModeWords : T_kit_ModeWords
 slices_Index__string : T_slices_Index__string
 kit_Numbers : T_kit_Numbers
 kit_Undash : T_kit_Undash
def log_ReadWords_ (g : C_log_ReadWords) (a1 : List (List UInt8)) {R : Type} (k0 : G_Contact → Bool → Option R) : Option R :=
 (bif ((a1.length : Int) != 8) then k0 (⟨0, 0, [], [], 0, 0, [], []⟩ : G_Contact) false else (at_ a1 1 fun x2 => (g.kit_ModeWords (fun r3 => (g.slices_Index__string r3 x2 (fun r4 => (at_ a1 0 fun x5 => (at_ a1 4 fun x6 => (at_ a1 6 fun x7 => (g.kit_Numbers [x5, x6, x7] (fun r8 r9 => (bif (!r9) then k0 (⟨0, 0, [], [], 0, 0, [], []⟩ : G_Contact) false else (bif (decide (r4 < 1)) then k0 (⟨0, 0, [], [], 0, 0, [], []⟩ : G_Contact) false else (inr r8 0 (at_ r8 0 fun x10 => (at_ a1 2 fun x11 => (at_ a1 3 fun x12 => (inr r8 1 (at_ r8 1 fun x13 => (at_ a1 5 fun x14 => (inr r8 2 (at_ r8 2 fun x15 => (at_ a1 7 fun x16 => (g.kit_Undash x14 (fun r17 => (g.kit_Undash x16 (fun r18 => k0 (⟨x10, r4, x11, x12, x13, x15, r17, r18⟩ : G_Contact) true)))))))))))))))))))))))))))
noncomputable def I_log_ReadWords [Fuel] : C_log_ReadWords := ⟨NN, @kit_ModeWords _, @slices_Index__string _, @kit_Numbers _, @kit_Undash _⟩
noncomputable def log_ReadWords [Fuel] : T_log_ReadWords := @log_ReadWords_ I_log_ReadWords
def SS_log_ReadWords (g : T_log_ReadWords) : Spec A := fun args => match args with | [.d (.sl 9 a1)] => fun k => g a1 (fun z0 z1 => k (.tup [.agg [.d (.int .i64 z0.f_At), .d (.int .i64 z0.f_Mode), .d (.str z0.f_Band), .d (.str z0.f_Call), .d (.int .i64 z0.f_Sent), .d (.int .i64 z0.f_Heard), .d (.str z0.f_Gave), .d (.str z0.f_Got)], .d (.bool z1)]) [.undef]) | _ => fun _ => none
noncomputable def code_62 : Code := (Tryz.f62.body).getD .skip
noncomputable def E_log_ReadWords (g : C_log_ReadWords) : Env A := mkE [(81, SS_kit_ModeWords g.kit_ModeWords), (92, SS_slices_Index__string g.slices_Index__string), (100, SS_kit_Numbers g.kit_Numbers), (127, SS_kit_Undash g.kit_Undash)] [(2, [0]), (11, [1]), (26, [2]), (27, [3])] [] [] [] [] [] [] [] []
theorem sm_log_ReadWords (g : C_log_ReadWords) : Same (SS_log_ReadWords (@log_ReadWords_ g)) (abody (E_log_ReadWords g) Tryz.f62 code_62 4 [] [.asis, .asis] g.N) := by intro args; unfold SS_log_ReadWords; split; exact .inr fun R k => (by kernel_rfl); exact .inl fun R k => rfl
theorem ok_log_ReadWords [Fuel] : Ok 62 (SS_log_ReadWords (@log_ReadWords _)) := okF_of std (.cons ok_kit_ModeWords (.cons ok_slices_Index__string (.cons ok_kit_Numbers (.cons ok_kit_Undash .nil)))) ⟨rfl, rfl, by kernel_rfl, rfl, rfl, rfl⟩ (sm_log_ReadWords I_log_ReadWords) (cuts0 (fun _ => rfl) (by kernel_rfl)) Tryz.func62 (by kernel_rfl) (by kernel_rfl)
abbrev T_log_Read : Type 1 := List UInt8 → {R : Type} → (List G_Contact → Int → Int → Option R) → Option R
structure C_log_Read where
 N : Nat
 log_CheckLog : T_log_CheckLog
 kit_Lines : T_kit_Lines
 kit_Words : T_kit_Words
 log_ReadWords : T_log_ReadWords
def log_Read_L6 (g : C_log_Read) : Nat → Bool → Int → Int → List (List UInt8) → List G_Contact → {R : Type} → (Int → Int → List G_Contact → Option R) → (List G_Contact → Option R) → Option R
 | 0, _, _, _, _, _, _, _, _ => none
 | n + 1, v4, v5, v6, v7, v8, _, e0, e1 => (bif (decide (v6 < v5)) then (inr v7 v6 (at_ v7 v6 fun x16 => (g.kit_Words x16 (fun r17 r18 => (bif (!r18) then e0 v6 9 v8 else (bif (!v4) then (bif (v6 == (w64 ((v7.length : Int) - 1))) then e0 v6 9 v8 else (g.log_ReadWords r17 (fun r19 r20 => (bif (!r20) then e0 v6 9 v8 else (bif (decide ((v8.length + [r19].length) * 96 ≤ roomBytes')) then log_Read_L6 g n v4 v5 (w64 (v6 + 1)) v7 (v8 ++ [r19]) e0 e1 else none))))) else (g.log_ReadWords r17 (fun r21 r22 => (bif (!r22) then e0 v6 9 v8 else (bif (decide ((v8.length + [r21].length) * 96 ≤ roomBytes')) then log_Read_L6 g n v4 v5 (w64 (v6 + 1)) v7 (v8 ++ [r21]) e0 e1 else none)))))))))) else e1 v8)
def log_Read_ (g : C_log_Read) (a1 : List UInt8) {R : Type} (k0 : List G_Contact → Int → Int → Option R) : Option R :=
 (bif (decide ((a1.length : Int) > 200000)) then k0 [] 0 2 else (g.kit_Lines a1 (fun r2 r3 => (log_Read_L6 g g.N r3 (r2.length : Int) 0 r2 [] (fun e23 e24 e25 => k0 [] e23 e24) (fun e26 => (g.log_CheckLog e26 (fun r27 => (bif (r27 != 0) then k0 [] 0 r27 else k0 e26 0 0))))))))
noncomputable def I_log_Read [Fuel] : C_log_Read := ⟨NN, @log_CheckLog _, @kit_Lines _, @kit_Words _, @log_ReadWords _⟩
noncomputable def log_Read [Fuel] : T_log_Read := @log_Read_ I_log_Read
def SS_log_Read (g : T_log_Read) : Spec A := fun args => match args with | [.d (.str a1)] => fun k => g a1 (fun z0 z1 z2 => k (.tup [.arr 39 z0, .d (.int .i64 z1), .d (.int .i64 z2)]) [.undef]) | _ => fun _ => none
def sh_log_Read_L6 : SSt := mkSh 67 6 [(5, .own 9 0), (6, .bool), (7, .own 39 1), (22, .own 9 0), (23, .int .i64), (24, .int .i64)] [(0, .row 9), (1, .row 39)]
def LP_log_Read_L6 (g : C_log_Read) (n : Nat) : LPT A := fun ps => match ps with | [.d (.bool p1), .d (.int .i64 p2), .d (.int .i64 p3), .d (.sl 9 p4), .d (.sl 39 p5)] => fun K => log_Read_L6 g n p1 p2 p3 p4 p5 (fun z0 z1 z2 => K .ret (mkSt 67 6 [(2, .d .nsl), (3, .d (.int .i64 z0)), (4, .d (.int .i64 z1)), (7, .own 39 1)] [(1, some (.row 39 z2))])) (fun z0 => K (.exit 0) (mkSt 67 6 [(7, .own 39 1)] [(1, some (.row 39 z0))])) | _ => fun _ => none
noncomputable def code_13 : Code := (Tryz.f13.body).getD .skip
noncomputable def E_log_Read (g : C_log_Read) : Env A := mkE [(53, SS_log_CheckLog g.log_CheckLog), (60, SS_kit_Lines g.kit_Lines), (61, SS_kit_Words g.kit_Words), (62, SS_log_ReadWords g.log_ReadWords)] [(12, [3]), (19, [0]), (31, [2]), (58, [4]), (59, [5])] [(6, ⟨[5, 6, 7, 22, 23, 24], [(7, 39, 1)], [0], [], [], [], []⟩)] [(6, ⟨[2, 3, 4, 7], [], [1], [], [], [], []⟩)] [(6, pieceOf sh_log_Read_L6 (LP_log_Read_L6 g g.N))] [] [] [] [] []
theorem ct_log_Read [Fuel] : NatTab (E_log_Read I_log_Read).C := ct_of (P := Tryz.prog) (T := T) (.cons ok_log_CheckLog (.cons ok_kit_Lines (.cons ok_kit_Words (.cons ok_log_ReadWords .nil)))) (by kernel_rfl)
noncomputable def cb_log_Read_L6 : Code := sub [1, 1, 1, 1, 0, 1, 0, 0] code_13
theorem s_log_Read_L6 (g : C_log_Read) (n : Nat) : StepOk (E_log_Read g) g.N cb_log_Read_L6 sh_log_Read_L6 (LP_log_Read_L6 g) n := by intro ps; unfold LP_log_Read_L6; split; exact .inr fun R K => (by kernel_rfl); exact .inl fun R K => rfl
theorem lf_log_Read_L6 [Fuel] : LoopFine (E_log_Read I_log_Read) NN cb_log_Read_L6 := fine_loop sh_log_Read_L6 (LP_log_Read_L6 I_log_Read) (by kernel_rfl) ct_log_Read (cuts0 (fun _ => rfl) (by kernel_rfl)) (fun ps R K => by unfold LP_log_Read_L6; split <;> (try unfold log_Read_L6) <;> rfl) (s_log_Read_L6 I_log_Read)
theorem sm_log_Read (g : C_log_Read) : Same (SS_log_Read (@log_Read_ g)) (abody (E_log_Read g) Tryz.f13 code_13 6 [] [.arr 39, .asis, .asis] g.N) := by intro args; unfold SS_log_Read; split; exact .inr fun R k => (by kernel_rfl); exact .inl fun R k => rfl
theorem ok_log_Read [Fuel] : Ok 13 (SS_log_Read (@log_Read _)) := okF_of std (.cons ok_log_CheckLog (.cons ok_kit_Lines (.cons ok_kit_Words (.cons ok_log_ReadWords .nil)))) ⟨rfl, rfl, by kernel_rfl, rfl, rfl, rfl⟩ (sm_log_Read I_log_Read) (cutsL (fun _ => rfl) (.cons lf_log_Read_L6 .nil) (by kernel_rfl)) Tryz.func13 (by kernel_rfl) (by kernel_rfl)
abbrev T_slices_Contains__string : Type 1 := List (List UInt8) → List UInt8 → {R : Type} → (Bool → Option R) → Option R
structure C_slices_Contains__string where
 N : Nat
 slices_Index__string : T_slices_Index__string
def slices_Contains__string_ (g : C_slices_Contains__string) (a1 : List (List UInt8)) (a2 : List UInt8) {R : Type} (k0 : Bool → Option R) : Option R :=
 (g.slices_Index__string a1 a2 (fun r3 => k0 (decide (r3 ≥ 0))))
noncomputable def I_slices_Contains__string [Fuel] : C_slices_Contains__string := ⟨NN, @slices_Index__string _⟩
noncomputable def slices_Contains__string [Fuel] : T_slices_Contains__string := @slices_Contains__string_ I_slices_Contains__string
def SS_slices_Contains__string (g : T_slices_Contains__string) : Spec A := fun args => match args with | [.d (.sl 9 a1), .d (.str a2)] => fun k => g a1 a2 (fun z0 => k (.d (.bool z0)) [.undef, .undef]) | _ => fun _ => none
noncomputable def code_129 : Code := (Tryz.f129.body).getD .skip
noncomputable def E_slices_Contains__string (g : C_slices_Contains__string) : Env A := mkE [(92, SS_slices_Index__string g.slices_Index__string)] [] [] [] [] [] [] [] [] []
theorem sm_slices_Contains__string (g : C_slices_Contains__string) : Same (SS_slices_Contains__string (@slices_Contains__string_ g)) (abody (E_slices_Contains__string g) Tryz.f129 code_129 0 [] [.asis] g.N) := by intro args; unfold SS_slices_Contains__string; split; exact .inr fun R k => (by kernel_rfl); exact .inl fun R k => rfl
theorem ok_slices_Contains__string [Fuel] : Ok 129 (SS_slices_Contains__string (@slices_Contains__string _)) := okF_of std (.cons ok_slices_Index__string .nil) ⟨rfl, rfl, by kernel_rfl, rfl, rfl, rfl⟩ (sm_slices_Contains__string I_slices_Contains__string) (cuts0 (fun _ => rfl) (by kernel_rfl)) Tryz.func129 (by kernel_rfl) (by kernel_rfl)
abbrev T_Q_Words : Type 1 := List UInt8 → {R : Type} → (List (List UInt8) → Bool → Option R) → Option R
structure C_Q_Words where
 N : Nat
 strings_Split : T_strings_Split
 slices_Contains__string : T_slices_Contains__string
def Q_Words_ (g : C_Q_Words) (a1 : List UInt8) {R : Type} (k0 : List (List UInt8) → Bool → Option R) : Option R :=
 (g.strings_Split a1 [32] (fun r2 => (g.slices_Contains__string r2 [] (fun r3 => k0 r2 (!r3)))))
noncomputable def I_Q_Words [Fuel] : C_Q_Words := ⟨NN, @strings_Split _, @slices_Contains__string _⟩
noncomputable def Q_Words [Fuel] : T_Q_Words := @Q_Words_ I_Q_Words
def SS_Q_Words (g : T_Q_Words) : Spec A := fun args => match args with | [.d (.str a1)] => fun k => g a1 (fun z0 z1 => k (.tup [.arr 9 z0, .d (.bool z1)]) [.undef]) | _ => fun _ => none
noncomputable def code_65 : Code := (Tryz.f65.body).getD .skip
noncomputable def E_Q_Words (g : C_Q_Words) : Env A := mkE [(126, SS_strings_Split g.strings_Split), (129, SS_slices_Contains__string g.slices_Contains__string)] [(6, [0])] [] [] [] [] [] [] [] []
theorem sm_Q_Words (g : C_Q_Words) : Same (SS_Q_Words (@Q_Words_ g)) (abody (E_Q_Words g) Tryz.f65 code_65 1 [] [.arr 9, .asis] g.N) := by intro args; unfold SS_Q_Words; split; exact .inr fun R k => (by kernel_rfl); exact .inl fun R k => rfl
theorem ok_Q_Words [Fuel] : Ok 65 (SS_Q_Words (@Q_Words _)) := okF_of std (.cons ok_strings_Split (.cons ok_slices_Contains__string .nil)) ⟨rfl, rfl, by kernel_rfl, rfl, rfl, rfl⟩ (sm_Q_Words I_Q_Words) (cuts0 (fun _ => rfl) (by kernel_rfl)) Tryz.func65 (by kernel_rfl) (by kernel_rfl)
abbrev T_stringslite_TrimPrefix : Type 1 := List UInt8 → List UInt8 → {R : Type} → (List UInt8 → Option R) → Option R
structure C_stringslite_TrimPrefix where
 N : Nat
 stringslite_HasPrefix : T_stringslite_HasPrefix
def stringslite_TrimPrefix_ (g : C_stringslite_TrimPrefix) (a1 a2 : List UInt8) {R : Type} (k0 : List UInt8 → Option R) : Option R :=
 (g.stringslite_HasPrefix a1 a2 (fun r3 => (bif r3 then (bif (decide (0 ≤ (a2.length : Int)) && decide ((a2.length : Int) ≤ (a1.length : Int))) then k0 (a1.drop ((a2.length : Int) : Int).toNat) else none) else k0 a1)))
noncomputable def I_stringslite_TrimPrefix [Fuel] : C_stringslite_TrimPrefix := ⟨NN, @stringslite_HasPrefix _⟩
noncomputable def stringslite_TrimPrefix [Fuel] : T_stringslite_TrimPrefix := @stringslite_TrimPrefix_ I_stringslite_TrimPrefix
def SS_stringslite_TrimPrefix (g : T_stringslite_TrimPrefix) : Spec A := fun args => match args with | [.d (.str a1), .d (.str a2)] => fun k => g a1 a2 (fun z0 => k (.d (.str z0)) [.undef, .undef]) | _ => fun _ => none
noncomputable def code_186 : Code := (Tryz.f186.body).getD .skip
noncomputable def E_stringslite_TrimPrefix (g : C_stringslite_TrimPrefix) : Env A := mkE [(240, SS_stringslite_HasPrefix g.stringslite_HasPrefix)] [] [] [] [] [] [] [] [] []
theorem sm_stringslite_TrimPrefix (g : C_stringslite_TrimPrefix) : Same (SS_stringslite_TrimPrefix (@stringslite_TrimPrefix_ g)) (abody (E_stringslite_TrimPrefix g) Tryz.f186 code_186 0 [] [.asis] g.N) := by intro args; unfold SS_stringslite_TrimPrefix; split; exact .inr fun R k => (by kernel_rfl); exact .inl fun R k => rfl
theorem ok_stringslite_TrimPrefix [Fuel] : Ok 186 (SS_stringslite_TrimPrefix (@stringslite_TrimPrefix _)) := okF_of std (.cons ok_stringslite_HasPrefix .nil) ⟨rfl, rfl, by kernel_rfl, rfl, rfl, rfl⟩ (sm_stringslite_TrimPrefix I_stringslite_TrimPrefix) (cuts0 (fun _ => rfl) (by kernel_rfl)) Tryz.func186 (by kernel_rfl) (by kernel_rfl)
abbrev T_strings_TrimPrefix : Type 1 := List UInt8 → List UInt8 → {R : Type} → (List UInt8 → Option R) → Option R
structure C_strings_TrimPrefix where
 N : Nat
 stringslite_TrimPrefix : T_stringslite_TrimPrefix
def strings_TrimPrefix_ (g : C_strings_TrimPrefix) (a1 a2 : List UInt8) {R : Type} (k0 : List UInt8 → Option R) : Option R :=
 (g.stringslite_TrimPrefix a1 a2 (fun r3 => k0 r3))
noncomputable def I_strings_TrimPrefix [Fuel] : C_strings_TrimPrefix := ⟨NN, @stringslite_TrimPrefix _⟩
noncomputable def strings_TrimPrefix [Fuel] : T_strings_TrimPrefix := @strings_TrimPrefix_ I_strings_TrimPrefix
def SS_strings_TrimPrefix (g : T_strings_TrimPrefix) : Spec A := fun args => match args with | [.d (.str a1), .d (.str a2)] => fun k => g a1 a2 (fun z0 => k (.d (.str z0)) [.undef, .undef]) | _ => fun _ => none
noncomputable def code_143 : Code := (Tryz.f143.body).getD .skip
noncomputable def E_strings_TrimPrefix (g : C_strings_TrimPrefix) : Env A := mkE [(186, SS_stringslite_TrimPrefix g.stringslite_TrimPrefix)] [] [] [] [] [] [] [] [] []
theorem sm_strings_TrimPrefix (g : C_strings_TrimPrefix) : Same (SS_strings_TrimPrefix (@strings_TrimPrefix_ g)) (abody (E_strings_TrimPrefix g) Tryz.f143 code_143 0 [] [.asis] g.N) := by intro args; unfold SS_strings_TrimPrefix; split; exact .inr fun R k => (by kernel_rfl); exact .inl fun R k => rfl
theorem ok_strings_TrimPrefix [Fuel] : Ok 143 (SS_strings_TrimPrefix (@strings_TrimPrefix _)) := okF_of std (.cons ok_stringslite_TrimPrefix .nil) ⟨rfl, rfl, by kernel_rfl, rfl, rfl, rfl⟩ (sm_strings_TrimPrefix I_strings_TrimPrefix) (cuts0 (fun _ => rfl) (by kernel_rfl)) Tryz.func143 (by kernel_rfl) (by kernel_rfl)
abbrev T_Q_Number : Type 1 := List UInt8 → Int → {R : Type} → (Int → Bool → Option R) → Option R
structure C_Q_Number where
 N : Nat
 strconv_Itoa : T_strconv_Itoa
 Q_only : T_Q_only
 strings_TrimPrefix : T_strings_TrimPrefix
 strconv_Atoi : T_strconv_Atoi
def Q_Number_ (g : C_Q_Number) (a1 : List UInt8) (a2 : Int) {R : Type} (k0 : Int → Bool → Option R) : Option R :=
 (g.strings_TrimPrefix a1 [45] (fun r3 => (bif (r3 == []) then k0 0 false else (bif (decide ((r3.length : Int) > a2)) then k0 0 false else (g.Q_only r3 [48, 49, 50, 51, 52, 53, 54, 55, 56, 57] (fun r4 => (bif (!r4) then k0 0 false else (g.strconv_Atoi a1 (fun r5 => (g.strconv_Itoa r5 (fun r6 => k0 r5 (r6 == a1))))))))))))
noncomputable def I_Q_Number [Fuel] : C_Q_Number := ⟨NN, @strconv_Itoa _, @Q_only _, @strings_TrimPrefix _, @strconv_Atoi _⟩
noncomputable def Q_Number [Fuel] : T_Q_Number := @Q_Number_ I_Q_Number
def SS_Q_Number (g : T_Q_Number) : Spec A := fun args => match args with | [.d (.str a1), .d (.int .i64 a2)] => fun k => g a1 a2 (fun z0 z1 => k (.tup [.d (.int .i64 z0), .d (.bool z1)]) [.undef, .undef]) | _ => fun _ => none
noncomputable def code_91 : Code := (Tryz.f91.body).getD .skip
noncomputable def E_Q_Number (g : C_Q_Number) : Env A := mkE [(79, SS_strconv_Itoa g.strconv_Itoa), (141, SS_Q_only g.Q_only), (143, SS_strings_TrimPrefix g.strings_TrimPrefix), (144, SS_strconv_Atoi g.strconv_Atoi)] [] [] [] [] [] [] [] [] []
theorem sm_Q_Number (g : C_Q_Number) : Same (SS_Q_Number (@Q_Number_ g)) (abody (E_Q_Number g) Tryz.f91 code_91 0 [] [.asis, .asis] g.N) := by intro args; unfold SS_Q_Number; split; exact .inr fun R k => (by kernel_rfl); exact .inl fun R k => rfl
theorem ok_Q_Number [Fuel] : Ok 91 (SS_Q_Number (@Q_Number _)) := okF_of std (.cons ok_strconv_Itoa (.cons ok_Q_only (.cons ok_strings_TrimPrefix (.cons ok_strconv_Atoi .nil)))) ⟨rfl, rfl, by kernel_rfl, rfl, rfl, rfl⟩ (sm_Q_Number I_Q_Number) (cuts0 (fun _ => rfl) (by kernel_rfl)) Tryz.func91 (by kernel_rfl) (by kernel_rfl)
abbrev T_Q_NumbersIn : Type 1 := List (List UInt8) → Int → {R : Type} → (List Int → Bool → Option R) → Option R
structure C_Q_NumbersIn where
 N : Nat
 Q_Number : T_Q_Number
def Q_NumbersIn_L4 (g : C_Q_NumbersIn) : Nat → Int → Bool → List (List UInt8) → Int → Int → List Int → {R : Type} → (Bool → List Int → Option R) → Option R
 | 0, _, _, _, _, _, _, _, _ => none
 | n + 1, v3, v4, v5, v6, v7, v8, _, e0 => (bif (decide (v7 < v6)) then (get_ v5 v7 fun x12 => (g.Q_Number x12 v3 (fun r13 r14 => (bif (decide ((v8.length + [r13].length) * 8 ≤ roomBytes')) then (bif v4 then Q_NumbersIn_L4 g n v3 r14 v5 v6 (w64 (v7 + 1)) (v8 ++ [r13]) e0 else Q_NumbersIn_L4 g n v3 false v5 v6 (w64 (v7 + 1)) (v8 ++ [r13]) e0) else none)))) else e0 v4 v8)
def Q_NumbersIn_ (g : C_Q_NumbersIn) (a1 : List (List UInt8)) (a2 : Int) {R : Type} (k0 : List Int → Bool → Option R) : Option R :=
 (Q_NumbersIn_L4 g g.N a2 true a1 (a1.length : Int) 0 [] (fun e15 e16 => k0 e16 e15))
noncomputable def I_Q_NumbersIn [Fuel] : C_Q_NumbersIn := ⟨NN, @Q_Number _⟩
noncomputable def Q_NumbersIn [Fuel] : T_Q_NumbersIn := @Q_NumbersIn_ I_Q_NumbersIn
def SS_Q_NumbersIn (g : T_Q_NumbersIn) : Spec A := fun args => match args with | [.d (.sl 9 a1), .d (.int .i64 a2)] => fun k => g a1 a2 (fun z0 z1 => k (.tup [.arr 3 z0, .d (.bool z1)]) [.undef, .undef]) | _ => fun _ => none
def sh_Q_NumbersIn_L4 : SSt := mkSh 35 3 [(1, .int .i64), (6, .own 3 0), (7, .bool), (12, .sl 9), (13, .int .i64), (14, .int .i64)] [(0, .row 3)]
def LP_Q_NumbersIn_L4 (g : C_Q_NumbersIn) (n : Nat) : LPT A := fun ps => match ps with | [.d (.int .i64 p1), .d (.bool p2), .d (.sl 9 p3), .d (.int .i64 p4), .d (.int .i64 p5), .d (.sl 3 p6)] => fun K => Q_NumbersIn_L4 g n p1 p2 p3 p4 p5 p6 (fun z0 z1 => K (.exit 0) (mkSt 35 3 [(6, .own 3 0), (7, .d (.bool z0))] [(0, some (.row 3 z1))])) | _ => fun _ => none
noncomputable def code_102 : Code := (Tryz.f102.body).getD .skip
noncomputable def E_Q_NumbersIn (g : C_Q_NumbersIn) : Env A := mkE [(91, SS_Q_Number g.Q_Number)] [(26, [1]), (27, [2])] [(4, ⟨[1, 6, 7, 12, 13, 14], [(6, 3, 0)], [], [], [], [], []⟩)] [(4, ⟨[6, 7], [], [0], [], [], [], []⟩)] [(4, pieceOf sh_Q_NumbersIn_L4 (LP_Q_NumbersIn_L4 g g.N))] [] [] [] [] []
theorem ct_Q_NumbersIn [Fuel] : NatTab (E_Q_NumbersIn I_Q_NumbersIn).C := ct_of (P := Tryz.prog) (T := T) (.cons ok_Q_Number .nil) (by kernel_rfl)
noncomputable def cb_Q_NumbersIn_L4 : Code := sub [1, 1, 1, 0, 1, 0, 0] code_102
theorem s_Q_NumbersIn_L4 (g : C_Q_NumbersIn) (n : Nat) : StepOk (E_Q_NumbersIn g) g.N cb_Q_NumbersIn_L4 sh_Q_NumbersIn_L4 (LP_Q_NumbersIn_L4 g) n := by intro ps; unfold LP_Q_NumbersIn_L4; split; exact .inr fun R K => (by kernel_rfl); exact .inl fun R K => rfl
theorem lf_Q_NumbersIn_L4 [Fuel] : LoopFine (E_Q_NumbersIn I_Q_NumbersIn) NN cb_Q_NumbersIn_L4 := fine_loop sh_Q_NumbersIn_L4 (LP_Q_NumbersIn_L4 I_Q_NumbersIn) (by kernel_rfl) ct_Q_NumbersIn (cuts0 (fun _ => rfl) (by kernel_rfl)) (fun ps R K => by unfold LP_Q_NumbersIn_L4; split <;> (try unfold Q_NumbersIn_L4) <;> rfl) (s_Q_NumbersIn_L4 I_Q_NumbersIn)
theorem sm_Q_NumbersIn (g : C_Q_NumbersIn) : Same (SS_Q_NumbersIn (@Q_NumbersIn_ g)) (abody (E_Q_NumbersIn g) Tryz.f102 code_102 3 [] [.arr 3, .asis] g.N) := by intro args; unfold SS_Q_NumbersIn; split; exact .inr fun R k => (by kernel_rfl); exact .inl fun R k => rfl
theorem ok_Q_NumbersIn [Fuel] : Ok 102 (SS_Q_NumbersIn (@Q_NumbersIn _)) := okF_of std (.cons ok_Q_Number .nil) ⟨rfl, rfl, by kernel_rfl, rfl, rfl, rfl⟩ (sm_Q_NumbersIn I_Q_NumbersIn) (cutsL (fun _ => rfl) (.cons lf_Q_NumbersIn_L4 .nil) (by kernel_rfl)) Tryz.func102 (by kernel_rfl) (by kernel_rfl)
abbrev T_Q_undash : Type 1 := List UInt8 → {R : Type} → (List UInt8 → Option R) → Option R
def Q_undash_ (g : Nat) (a1 : List UInt8) {R : Type} (k0 : List UInt8 → Option R) : Option R :=
 (bif (a1 == [45]) then k0 [] else k0 a1)
noncomputable def Q_undash [Fuel] : T_Q_undash := @Q_undash_ NN
def SS_Q_undash (g : T_Q_undash) : Spec A := fun args => match args with | [.d (.str a1)] => fun k => g a1 (fun z0 => k (.d (.str z0)) [.undef]) | _ => fun _ => none
noncomputable def code_130 : Code := (Tryz.f130.body).getD .skip
noncomputable def E_Q_undash (g : Nat) : Env A := mkE [] [] [] [] [] [] [] [] [] []
theorem sm_Q_undash (g : Nat) : Same (SS_Q_undash (@Q_undash_ g)) (abody (E_Q_undash g) Tryz.f130 code_130 0 [] [.asis] g) := by intro args; unfold SS_Q_undash; split; exact .inr fun R k => (by kernel_rfl); exact .inl fun R k => rfl
theorem ok_Q_undash [Fuel] : Ok 130 (SS_Q_undash (@Q_undash _)) := okF_of std .nil ⟨rfl, rfl, by kernel_rfl, rfl, rfl, rfl⟩ (sm_Q_undash NN) (cuts0 (fun _ => rfl) (by kernel_rfl)) Tryz.func130 (by kernel_rfl) (by kernel_rfl)
abbrev T_Q_ContactIn : Type 1 := List (List UInt8) → {R : Type} → (G_Contact → Bool → Option R) → Option R
structure C_Q_ContactIn where
 N : Nat
 Q_plainModes : T_Q_plainModes
 slices_Index__string : T_slices_Index__string
 Q_NumbersIn : T_Q_NumbersIn
 Q_undash : T_Q_undash
def Q_ContactIn_ (g : C_Q_ContactIn) (a1 : List (List UInt8)) {R : Type} (k0 : G_Contact → Bool → Option R) : Option R :=
 (bif ((a1.length : Int) != 8) then k0 (⟨0, 0, [], [], 0, 0, [], []⟩ : G_Contact) false else (at_ a1 0 fun x2 => (at_ a1 4 fun x3 => (at_ a1 6 fun x4 => (g.Q_NumbersIn [x2, x3, x4] 15 (fun r5 r6 => (inr r5 0 (at_ r5 0 fun x7 => (at_ a1 1 fun x8 => (at_ a1 2 fun x9 => (at_ a1 3 fun x10 => (inr r5 1 (at_ r5 1 fun x11 => (at_ a1 5 fun x12 => (inr r5 2 (at_ r5 2 fun x13 => (at_ a1 7 fun x14 => (g.Q_plainModes (fun r15 => (g.slices_Index__string r15 x8 (fun r16 => (g.Q_undash x12 (fun r17 => (g.Q_undash x14 (fun r18 => (bif r6 then k0 (⟨x7, r16, x9, x10, x11, x13, r17, r18⟩ : G_Contact) (decide (r16 > 0)) else k0 (⟨x7, r16, x9, x10, x11, x13, r17, r18⟩ : G_Contact) false))))))))))))))))))))))))))
noncomputable def I_Q_ContactIn [Fuel] : C_Q_ContactIn := ⟨NN, @Q_plainModes _, @slices_Index__string _, @Q_NumbersIn _, @Q_undash _⟩
noncomputable def Q_ContactIn [Fuel] : T_Q_ContactIn := @Q_ContactIn_ I_Q_ContactIn
def SS_Q_ContactIn (g : T_Q_ContactIn) : Spec A := fun args => match args with | [.d (.sl 9 a1)] => fun k => g a1 (fun z0 z1 => k (.tup [.agg [.d (.int .i64 z0.f_At), .d (.int .i64 z0.f_Mode), .d (.str z0.f_Band), .d (.str z0.f_Call), .d (.int .i64 z0.f_Sent), .d (.int .i64 z0.f_Heard), .d (.str z0.f_Gave), .d (.str z0.f_Got)], .d (.bool z1)]) [.undef]) | _ => fun _ => none
noncomputable def code_66 : Code := (Tryz.f66.body).getD .skip
noncomputable def E_Q_ContactIn (g : C_Q_ContactIn) : Env A := mkE [(88, SS_Q_plainModes g.Q_plainModes), (92, SS_slices_Index__string g.slices_Index__string), (102, SS_Q_NumbersIn g.Q_NumbersIn), (130, SS_Q_undash g.Q_undash)] [(2, [0]), (6, [3]), (21, [1]), (22, [2]), (28, [4])] [] [] [] [] [] [] [] []
theorem sm_Q_ContactIn (g : C_Q_ContactIn) : Same (SS_Q_ContactIn (@Q_ContactIn_ g)) (abody (E_Q_ContactIn g) Tryz.f66 code_66 5 [] [.asis, .asis] g.N) := by intro args; unfold SS_Q_ContactIn; split; exact .inr fun R k => (by kernel_rfl); exact .inl fun R k => rfl
theorem ok_Q_ContactIn [Fuel] : Ok 66 (SS_Q_ContactIn (@Q_ContactIn _)) := okF_of std (.cons ok_Q_plainModes (.cons ok_slices_Index__string (.cons ok_Q_NumbersIn (.cons ok_Q_undash .nil)))) ⟨rfl, rfl, by kernel_rfl, rfl, rfl, rfl⟩ (sm_Q_ContactIn I_Q_ContactIn) (cuts0 (fun _ => rfl) (by kernel_rfl)) Tryz.func66 (by kernel_rfl) (by kernel_rfl)
abbrev T_Q_LogRead_1_ba1 : Type 1 := List UInt8 → List G_Contact → {R : Type} → (Bool → List G_Contact → Option R) → Option R
structure C_Q_LogRead_1_ba1 where
 N : Nat
 Q_Words : T_Q_Words
 Q_ContactIn : T_Q_ContactIn
def Q_LogRead_1_ba1_ (g : C_Q_LogRead_1_ba1) (a1 : List UInt8) (a2 : List G_Contact) {R : Type} (k0 : Bool → List G_Contact → Option R) : Option R :=
 (g.Q_Words a1 (fun r3 r4 => (g.Q_ContactIn r3 (fun r5 r6 => (bif (decide ((a2.length + [r5].length) * 96 ≤ roomBytes')) then (bif r4 then k0 r6 (a2 ++ [r5]) else k0 false (a2 ++ [r5])) else none)))))
noncomputable def I_Q_LogRead_1_ba1 [Fuel] : C_Q_LogRead_1_ba1 := ⟨NN, @Q_Words _, @Q_ContactIn _⟩
noncomputable def Q_LogRead_1_ba1 [Fuel] : T_Q_LogRead_1_ba1 := @Q_LogRead_1_ba1_ I_Q_LogRead_1_ba1
def SS_Q_LogRead_1_ba1 (g : T_Q_LogRead_1_ba1) : Spec A := fun args => match args with | [.d (.str a1), .box [.arr 39 a2]] => fun k => g a1 a2 (fun z0 z1 => k (.d (.bool z0)) [.undef, .box [.arr 39 z1]]) | _ => fun _ => none
noncomputable def code_64 : Code := (Tryz.f64.body).getD .skip
noncomputable def E_Q_LogRead_1_ba1 (g : C_Q_LogRead_1_ba1) : Env A := mkE [(65, SS_Q_Words g.Q_Words), (66, SS_Q_ContactIn g.Q_ContactIn)] [(6, [3]), (10, [2]), (20, [4]), (21, [5])] [] [] [] [] [] [] [] [1]
theorem sm_Q_LogRead_1_ba1 (g : C_Q_LogRead_1_ba1) : Same (SS_Q_LogRead_1_ba1 (@Q_LogRead_1_ba1_ g)) (abody (E_Q_LogRead_1_ba1 g) Tryz.f64 code_64 6 [0, 1] [.asis] g.N) := by intro args; unfold SS_Q_LogRead_1_ba1; split; exact .inr fun R k => (by kernel_rfl); exact .inl fun R k => rfl
theorem ok_Q_LogRead_1_ba1 [Fuel] : Ok 64 (SS_Q_LogRead_1_ba1 (@Q_LogRead_1_ba1 _)) := okF_of std (.cons ok_Q_Words (.cons ok_Q_ContactIn .nil)) ⟨rfl, rfl, by kernel_rfl, rfl, rfl, rfl⟩ (sm_Q_LogRead_1_ba1 I_Q_LogRead_1_ba1) (cuts0 (fun _ => rfl) (by kernel_rfl)) Tryz.func64 (by kernel_rfl) (by kernel_rfl)
abbrev T_Q_Lines_Q_LogRead_1bn : Type 1 := List UInt8 → {R : Type} → (Int → Bool → List G_Contact → Option R) → Option R
structure C_Q_Lines_Q_LogRead_1bn where
 N : Nat
 Q_LogRead_1_ba1 : T_Q_LogRead_1_ba1
 strings_Cut : T_strings_Cut
def Q_Lines_Q_LogRead_1bn_L2 (g : C_Q_Lines_Q_LogRead_1bn) : Nat → List UInt8 → Int → List G_Contact → {R : Type} → (Int → Bool → List G_Contact → Option R) → (Int → Bool → List G_Contact → Option R) → (List G_Contact → Option R) → Option R
 | 0, _, _, _, _, _, _, _ => none
 | n + 1, v2, v3, v4, _, e0, e1, e2 => (bif (!(v2 == [])) then (g.strings_Cut v2 [10] (fun r10 r11 r12 => (bif (!r12) then e0 v3 false v4 else (g.Q_LogRead_1_ba1 r10 v4 (fun r13 r14 => (bif (!r13) then e1 v3 false r14 else Q_Lines_Q_LogRead_1bn_L2 g n r11 (w64 (v3 + 1)) r14 e0 e1 e2)))))) else e2 v4)
def Q_Lines_Q_LogRead_1bn_ (g : C_Q_Lines_Q_LogRead_1bn) (a1 : List UInt8) {R : Type} (k0 : Int → Bool → List G_Contact → Option R) : Option R :=
 (Q_Lines_Q_LogRead_1bn_L2 g g.N a1 0 [] (fun e15 e16 e17 => k0 e15 e16 e17) (fun e18 e19 e20 => k0 e18 e19 e20) (fun e21 => k0 0 true e21))
noncomputable def I_Q_Lines_Q_LogRead_1bn [Fuel] : C_Q_Lines_Q_LogRead_1bn := ⟨NN, @Q_LogRead_1_ba1 _, @strings_Cut _⟩
noncomputable def Q_Lines_Q_LogRead_1bn [Fuel] : T_Q_Lines_Q_LogRead_1bn := @Q_Lines_Q_LogRead_1bn_ I_Q_Lines_Q_LogRead_1bn
def SS_Q_Lines_Q_LogRead_1bn (g : T_Q_Lines_Q_LogRead_1bn) : Spec A := fun args => match args with | [.d (.str a1), .fn 64 [.box [.d .nsl]]] => fun k => g a1 (fun z0 z1 z2 => k (.tup [.d (.int .i64 z0), .d (.bool z1)]) [.undef, .fn 64 [.box [.arr 39 z2]]]) | _ => fun _ => none
def sh_Q_Lines_Q_LogRead_1bn_L2 : SSt := mkSh 30 3 [(0, .str), (1, .fn 64 [.ptr 0 0]), (6, .int .i64)] [(0, .box [.own 39 1]), (1, .row 39)]
def LP_Q_Lines_Q_LogRead_1bn_L2 (g : C_Q_Lines_Q_LogRead_1bn) (n : Nat) : LPT A := fun ps => match ps with | [.d (.str p1), .d (.int .i64 p2), .d (.sl 39 p3)] => fun K => Q_Lines_Q_LogRead_1bn_L2 g n p1 p2 p3 (fun z0 z1 z2 => K .ret (mkSt 30 3 [(1, .fn 64 [.ptr 0 0]), (4, .d (.int .i64 z0)), (5, .d (.bool z1))] [(0, some (.box [.own 39 1])), (1, some (.row 39 z2))])) (fun z0 z1 z2 => K .ret (mkSt 30 3 [(1, .fn 64 [.ptr 0 0]), (4, .d (.int .i64 z0)), (5, .d (.bool z1))] [(0, some (.box [.own 39 2])), (1, some (.gone (0, 39))), (2, some (.row 39 z2))])) (fun z0 => K (.exit 0) (mkSt 30 3 [(1, .fn 64 [.ptr 0 0])] [(0, some (.box [.own 39 1])), (1, some (.row 39 z0))])) | _ => fun _ => none
noncomputable def code_63 : Code := (Tryz.f63.body).getD .skip
noncomputable def E_Q_Lines_Q_LogRead_1bn (g : C_Q_Lines_Q_LogRead_1bn) : Env A := mkE [(64, SS_Q_LogRead_1_ba1 g.Q_LogRead_1_ba1), (128, SS_strings_Cut g.strings_Cut)] [(25, [2])] [(2, ⟨[0, 1, 6], [], [0], [(0, 0, 39, 1)], [], [], []⟩)] [(2, ⟨[1, 4, 5], [], [0, 1, 2], [], [], [], []⟩)] [(2, pieceOf sh_Q_Lines_Q_LogRead_1bn_L2 (LP_Q_Lines_Q_LogRead_1bn_L2 g g.N))] [] [] [] [] [1]
theorem ct_Q_Lines_Q_LogRead_1bn [Fuel] : NatTab (E_Q_Lines_Q_LogRead_1bn I_Q_Lines_Q_LogRead_1bn).C := ct_of (P := Tryz.prog) (T := T) (.cons ok_Q_LogRead_1_ba1 (.cons ok_strings_Cut .nil)) (by kernel_rfl)
noncomputable def cb_Q_Lines_Q_LogRead_1bn_L2 : Code := sub [1, 0, 1, 0, 0] code_63
theorem s_Q_Lines_Q_LogRead_1bn_L2 (g : C_Q_Lines_Q_LogRead_1bn) (n : Nat) : StepOk (E_Q_Lines_Q_LogRead_1bn g) g.N cb_Q_Lines_Q_LogRead_1bn_L2 sh_Q_Lines_Q_LogRead_1bn_L2 (LP_Q_Lines_Q_LogRead_1bn_L2 g) n := by intro ps; unfold LP_Q_Lines_Q_LogRead_1bn_L2; split; exact .inr fun R K => (by kernel_rfl); exact .inl fun R K => rfl
theorem lf_Q_Lines_Q_LogRead_1bn_L2 [Fuel] : LoopFine (E_Q_Lines_Q_LogRead_1bn I_Q_Lines_Q_LogRead_1bn) NN cb_Q_Lines_Q_LogRead_1bn_L2 := fine_loop sh_Q_Lines_Q_LogRead_1bn_L2 (LP_Q_Lines_Q_LogRead_1bn_L2 I_Q_Lines_Q_LogRead_1bn) (by kernel_rfl) ct_Q_Lines_Q_LogRead_1bn (cuts0 (fun _ => rfl) (by kernel_rfl)) (fun ps R K => by unfold LP_Q_Lines_Q_LogRead_1bn_L2; split <;> (try unfold Q_Lines_Q_LogRead_1bn_L2) <;> rfl) (s_Q_Lines_Q_LogRead_1bn_L2 I_Q_Lines_Q_LogRead_1bn)
theorem sm_Q_Lines_Q_LogRead_1bn (g : C_Q_Lines_Q_LogRead_1bn) : Same (SS_Q_Lines_Q_LogRead_1bn (@Q_Lines_Q_LogRead_1bn_ g)) (abody (E_Q_Lines_Q_LogRead_1bn g) Tryz.f63 code_63 3 [0] [.asis, .asis] g.N) := by intro args; unfold SS_Q_Lines_Q_LogRead_1bn; split; exact .inr fun R k => (by kernel_rfl); exact .inl fun R k => rfl
theorem ok_Q_Lines_Q_LogRead_1bn [Fuel] : Ok 63 (SS_Q_Lines_Q_LogRead_1bn (@Q_Lines_Q_LogRead_1bn _)) := okF_of std (.cons ok_Q_LogRead_1_ba1 (.cons ok_strings_Cut .nil)) ⟨rfl, rfl, by kernel_rfl, rfl, rfl, rfl⟩ (sm_Q_Lines_Q_LogRead_1bn I_Q_Lines_Q_LogRead_1bn) (cutsL (fun _ => rfl) (.cons lf_Q_Lines_Q_LogRead_1bn_L2 .nil) (by kernel_rfl)) Tryz.func63 (by kernel_rfl) (by kernel_rfl)
abbrev T_Q_LogRead : Type 1 := List UInt8 → {R : Type} → (List G_Contact → Int → Int → Option R) → Option R
structure C_Q_LogRead where
 N : Nat
 Q_LogFault : T_Q_LogFault
 Q_Lines_Q_LogRead_1bn : T_Q_Lines_Q_LogRead_1bn
def Q_LogRead_ (g : C_Q_LogRead) (a1 : List UInt8) {R : Type} (k0 : List G_Contact → Int → Int → Option R) : Option R :=
 (bif (decide ((a1.length : Int) > 200000)) then k0 [] 0 2 else (g.Q_Lines_Q_LogRead_1bn a1 (fun r2 r3 r4 => (bif (!r3) then k0 [] r2 9 else (g.Q_LogFault r4 (fun r5 => (bif (r5 != 0) then k0 [] 0 r5 else k0 r4 0 0)))))))
noncomputable def I_Q_LogRead [Fuel] : C_Q_LogRead := ⟨NN, @Q_LogFault _, @Q_Lines_Q_LogRead_1bn _⟩
noncomputable def Q_LogRead [Fuel] : T_Q_LogRead := @Q_LogRead_ I_Q_LogRead
def SS_Q_LogRead (g : T_Q_LogRead) : Spec A := fun args => match args with | [.d (.str a1)] => fun k => g a1 (fun z0 z1 z2 => k (.tup [.arr 39 z0, .d (.int .i64 z1), .d (.int .i64 z2)]) [.undef]) | _ => fun _ => none
noncomputable def code_14 : Code := (Tryz.f14.body).getD .skip
noncomputable def E_Q_LogRead (g : C_Q_LogRead) : Env A := mkE [(11, SS_Q_LogFault g.Q_LogFault), (63, SS_Q_Lines_Q_LogRead_1bn g.Q_Lines_Q_LogRead_1bn)] [(5, [0]), (15, [1])] [] [] [] [] [] [] [] []
theorem sm_Q_LogRead (g : C_Q_LogRead) : Same (SS_Q_LogRead (@Q_LogRead_ g)) (abody (E_Q_LogRead g) Tryz.f14 code_14 2 [] [.arr 39, .asis, .asis] g.N) := by intro args; unfold SS_Q_LogRead; split; exact .inr fun R k => (by kernel_rfl); exact .inl fun R k => rfl
theorem ok_Q_LogRead [Fuel] : Ok 14 (SS_Q_LogRead (@Q_LogRead _)) := okF_of std (.cons ok_Q_LogFault (.cons ok_Q_Lines_Q_LogRead_1bn .nil)) ⟨rfl, rfl, by kernel_rfl, rfl, rfl, rfl⟩ (sm_Q_LogRead I_Q_LogRead) (cuts0 (fun _ => rfl) (by kernel_rfl)) Tryz.func14 (by kernel_rfl) (by kernel_rfl)
abbrev T_slices_Equal__Contact : Type 1 := List G_Contact → List G_Contact → {R : Type} → (Bool → Option R) → Option R
def slices_Equal__Contact_L4 (g : Nat) : Nat → List G_Contact → List G_Contact → Int → Int → {R : Type} → (Bool → Option R) → Option R → Option R
 | 0, _, _, _, _, _, _, _ => none
 | n + 1, v3, v4, v5, v6, _, e0, e1 => (bif (decide (v6 < v5)) then (get_ v3 v6 fun x9 => (get_ v4 v6 fun x10 => (bif (!(eq_G_Contact x9 x10)) then e0 false else slices_Equal__Contact_L4 g n v3 v4 v5 (w64 (v6 + 1)) e0 e1))) else e1)
def slices_Equal__Contact_ (g : Nat) (a1 a2 : List G_Contact) {R : Type} (k0 : Bool → Option R) : Option R :=
 (bif ((a1.length : Int) != (a2.length : Int)) then k0 false else (slices_Equal__Contact_L4 g g a1 a2 (a1.length : Int) 0 (fun e11 => k0 e11) (k0 true)))
noncomputable def slices_Equal__Contact [Fuel] : T_slices_Equal__Contact := @slices_Equal__Contact_ NN
def SS_slices_Equal__Contact (g : T_slices_Equal__Contact) : Spec A := fun args => match args with | [.d (.sl 39 a1), .d (.sl 39 a2)] => fun k => g a1 a2 (fun z0 => k (.d (.bool z0)) [.undef, .undef]) | _ => fun _ => none
def sh_slices_Equal__Contact_L4 : SSt := mkSh 26 0 [(0, .sl 39), (1, .sl 39), (12, .int .i64), (13, .int .i64)] []
def LP_slices_Equal__Contact_L4 (g : Nat) (n : Nat) : LPT A := fun ps => match ps with | [.d (.sl 39 p1), .d (.sl 39 p2), .d (.int .i64 p3), .d (.int .i64 p4)] => fun K => slices_Equal__Contact_L4 g n p1 p2 p3 p4 (fun z0 => K .ret (mkSt 26 0 [(4, .d (.bool z0))] [])) (K (.exit 0) (mkSt 26 0 [] [])) | _ => fun _ => none
noncomputable def code_15 : Code := (Tryz.f15.body).getD .skip
noncomputable def E_slices_Equal__Contact (g : Nat) : Env A := mkE [] [] [(4, ⟨[0, 1, 12, 13], [], [], [], [], [], []⟩)] [(4, ⟨[4], [], [], [], [], [], []⟩)] [(4, pieceOf sh_slices_Equal__Contact_L4 (LP_slices_Equal__Contact_L4 g g))] [] [] [] [] []
theorem ct_slices_Equal__Contact [Fuel] : NatTab (E_slices_Equal__Contact NN).C := ct_of (P := Tryz.prog) (T := T) .nil (by kernel_rfl)
noncomputable def cb_slices_Equal__Contact_L4 : Code := sub [1, 1, 0, 1, 0, 0] code_15
theorem s_slices_Equal__Contact_L4 (g : Nat) (n : Nat) : StepOk (E_slices_Equal__Contact g) g cb_slices_Equal__Contact_L4 sh_slices_Equal__Contact_L4 (LP_slices_Equal__Contact_L4 g) n := by intro ps; unfold LP_slices_Equal__Contact_L4; split; exact .inr fun R K => (by kernel_rfl); exact .inl fun R K => rfl
theorem lf_slices_Equal__Contact_L4 [Fuel] : LoopFine (E_slices_Equal__Contact NN) NN cb_slices_Equal__Contact_L4 := fine_loop sh_slices_Equal__Contact_L4 (LP_slices_Equal__Contact_L4 NN) (by kernel_rfl) ct_slices_Equal__Contact (cuts0 (fun _ => rfl) (by kernel_rfl)) (fun ps R K => by unfold LP_slices_Equal__Contact_L4; split <;> (try unfold slices_Equal__Contact_L4) <;> rfl) (s_slices_Equal__Contact_L4 NN)
theorem sm_slices_Equal__Contact (g : Nat) : Same (SS_slices_Equal__Contact (@slices_Equal__Contact_ g)) (abody (E_slices_Equal__Contact g) Tryz.f15 code_15 0 [] [.asis] g) := by intro args; unfold SS_slices_Equal__Contact; split; exact .inr fun R k => (by kernel_rfl); exact .inl fun R k => rfl
theorem ok_slices_Equal__Contact [Fuel] : Ok 15 (SS_slices_Equal__Contact (@slices_Equal__Contact _)) := okF_of std .nil ⟨rfl, rfl, by kernel_rfl, rfl, rfl, rfl⟩ (sm_slices_Equal__Contact NN) (cutsL (fun _ => rfl) (.cons lf_slices_Equal__Contact_L4 .nil) (by kernel_rfl)) Tryz.func15 (by kernel_rfl) (by kernel_rfl)
abbrev T_call_BaseOf : Type 1 := List UInt8 → {R : Type} → (List UInt8 → Option R) → Option R
structure C_call_BaseOf where
 N : Nat
 call_Parts : T_call_Parts
def call_BaseOf_ (g : C_call_BaseOf) (a1 : List UInt8) {R : Type} (k0 : List UInt8 → Option R) : Option R :=
 (g.call_Parts a1 (fun r2 r3 => k0 r2.f_Base))
noncomputable def I_call_BaseOf [Fuel] : C_call_BaseOf := ⟨NN, @call_Parts _⟩
noncomputable def call_BaseOf [Fuel] : T_call_BaseOf := @call_BaseOf_ I_call_BaseOf
def SS_call_BaseOf (g : T_call_BaseOf) : Spec A := fun args => match args with | [.d (.str a1)] => fun k => g a1 (fun z0 => k (.d (.str z0)) [.undef]) | _ => fun _ => none
noncomputable def code_174 : Code := (Tryz.f174.body).getD .skip
noncomputable def E_call_BaseOf (g : C_call_BaseOf) : Env A := mkE [(177, SS_call_Parts g.call_Parts)] [(3, [0])] [] [] [] [] [] [] [] []
theorem sm_call_BaseOf (g : C_call_BaseOf) : Same (SS_call_BaseOf (@call_BaseOf_ g)) (abody (E_call_BaseOf g) Tryz.f174 code_174 1 [] [.asis] g.N) := by intro args; unfold SS_call_BaseOf; split; exact .inr fun R k => (by kernel_rfl); exact .inl fun R k => rfl
theorem ok_call_BaseOf [Fuel] : Ok 174 (SS_call_BaseOf (@call_BaseOf _)) := okF_of std (.cons ok_call_Parts .nil) ⟨rfl, rfl, by kernel_rfl, rfl, rfl, rfl⟩ (sm_call_BaseOf I_call_BaseOf) (cuts0 (fun _ => rfl) (by kernel_rfl)) Tryz.func174 (by kernel_rfl) (by kernel_rfl)
end Go.Am
