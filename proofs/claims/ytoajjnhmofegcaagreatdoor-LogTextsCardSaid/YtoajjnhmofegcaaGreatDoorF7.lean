/- The functions of the program as Lean functions, each shown to be what the code computes, part 7. No condition: lemmas for the claim. -/
import Derived.Test.YtoajjnhmofegcaaGreatDoorF0
import Derived.Test.YtoajjnhmofegcaaGreatDoorFSh
import Derived.Test.YtoajjnhmofegcaaGreatDoorF1
import Derived.Test.YtoajjnhmofegcaaGreatDoorF2
import Derived.Test.YtoajjnhmofegcaaGreatDoorF3
import Derived.Test.YtoajjnhmofegcaaGreatDoorF4
import Derived.Test.YtoajjnhmofegcaaGreatDoorF5
import Derived.Test.YtoajjnhmofegcaaGreatDoorF6
set_option linter.unusedVariables false
set_option maxRecDepth 100000
namespace Go.Am
open Go Go.Proofs
abbrev T_log_dupes : Type 1 := List G_Contact → {R : Type} → (List Int → Option R) → Option R
structure C_log_dupes where
 N : Nat
 call_BaseOf : T_call_BaseOf
def log_dupes_L4 (g : C_log_dupes) : Nat → List G_Contact → Int → Int → List (G_log_worked × Bool) → List Int → {R : Type} → (List Int → Option R) → Option R
 | 0, _, _, _, _, _, _, _ => none
 | n + 1, v2, v3, v4, v5, v6, _, e0 => (bif (decide (v4 < v3)) then (get_ v2 v4 fun x9 => (g.call_BaseOf x9.f_Call (fun r10 => (bif ((mget_log_worked_bool (⟨r10, x9.f_Band, x9.f_Mode⟩ : G_log_worked) v5).getD false) then (bif (decide ((v6.length + [v4].length) * 8 ≤ roomBytes')) then log_dupes_L4 g n v2 v3 (w64 (v4 + 1)) (mset_log_worked_bool (⟨r10, x9.f_Band, x9.f_Mode⟩ : G_log_worked) true v5) (v6 ++ [v4]) e0 else none) else log_dupes_L4 g n v2 v3 (w64 (v4 + 1)) (mset_log_worked_bool (⟨r10, x9.f_Band, x9.f_Mode⟩ : G_log_worked) true v5) v6 e0)))) else e0 v6)
def log_dupes_ (g : C_log_dupes) (a1 : List G_Contact) {R : Type} (k0 : List Int → Option R) : Option R :=
 (log_dupes_L4 g g.N a1 (a1.length : Int) 0 [] [] (fun e11 => k0 e11))
noncomputable def I_log_dupes [Fuel] : C_log_dupes := ⟨NN, @call_BaseOf _⟩
noncomputable def log_dupes [Fuel] : T_log_dupes := @log_dupes_ I_log_dupes
def SS_log_dupes (g : T_log_dupes) : Spec A := fun args => match args with | [.d (.sl 39 a1)] => fun k => g a1 (fun z0 => k (.arr 3 z0) [.undef]) | _ => fun _ => none
def sh_log_dupes_L4 : SSt := mkSh 35 6 [(3, .mp 0), (4, .own 3 1), (9, .sl 39), (10, .int .i64), (11, .int .i64)] [(0, .mp 195 4), (1, .row 3)]
def LP_log_dupes_L4 (g : C_log_dupes) (n : Nat) : LPT A := fun ps => match ps with | [.d (.sl 39 p1), .d (.int .i64 p2), .d (.int .i64 p3), .mp 195 4 p4, .d (.sl 3 p5)] => fun K => log_dupes_L4 g n p1 p2 p3 p4 p5 (fun z0 => K (.exit 0) (mkSt 35 6 [(4, .own 3 1)] [(1, some (.row 3 z0))])) | _ => fun _ => none
noncomputable def code_131 : Code := (Tryz.f131.body).getD .skip
noncomputable def E_log_dupes (g : C_log_dupes) : Env A := mkE [(174, SS_call_BaseOf g.call_BaseOf)] [(6, [2]), (7, [3]), (8, [0]), (29, [4]), (30, [5])] [(4, ⟨[3, 4, 9, 10, 11], [(4, 3, 1)], [0], [], [], [], []⟩)] [(4, ⟨[4], [], [1], [], [], [], []⟩)] [(4, pieceOf sh_log_dupes_L4 (LP_log_dupes_L4 g g.N))] [] [] [] [] []
theorem ct_log_dupes [Fuel] : NatTab (E_log_dupes I_log_dupes).C := ct_of (P := Tryz.prog) (T := T) (.cons ok_call_BaseOf .nil) (by kernel_rfl)
noncomputable def cb_log_dupes_L4 : Code := sub [1, 1, 1, 0, 1, 0, 0] code_131
theorem s_log_dupes_L4 (g : C_log_dupes) (n : Nat) : StepOk (E_log_dupes g) g.N cb_log_dupes_L4 sh_log_dupes_L4 (LP_log_dupes_L4 g) n := by intro ps; unfold LP_log_dupes_L4; split; exact .inr fun R K => (by kernel_rfl); exact .inl fun R K => rfl
theorem lf_log_dupes_L4 [Fuel] : LoopFine (E_log_dupes I_log_dupes) NN cb_log_dupes_L4 := fine_loop sh_log_dupes_L4 (LP_log_dupes_L4 I_log_dupes) (by kernel_rfl) ct_log_dupes (cuts0 (fun _ => rfl) (by kernel_rfl)) (fun ps R K => by unfold LP_log_dupes_L4; split <;> (try unfold log_dupes_L4) <;> rfl) (s_log_dupes_L4 I_log_dupes)
theorem sm_log_dupes (g : C_log_dupes) : Same (SS_log_dupes (@log_dupes_ g)) (abody (E_log_dupes g) Tryz.f131 code_131 6 [] [.arr 3] g.N) := by intro args; unfold SS_log_dupes; split; exact .inr fun R k => (by kernel_rfl); exact .inl fun R k => rfl
theorem ok_log_dupes [Fuel] : Ok 131 (SS_log_dupes (@log_dupes _)) := okF_of std (.cons ok_call_BaseOf .nil) ⟨rfl, rfl, by kernel_rfl, rfl, rfl, rfl⟩ (sm_log_dupes I_log_dupes) (cutsL (fun _ => rfl) (.cons lf_log_dupes_L4 .nil) (by kernel_rfl)) Tryz.func131 (by kernel_rfl) (by kernel_rfl)
abbrev T_log_Dupes : Type 1 := List G_Contact → {R : Type} → (List Int → Int → Option R) → Option R
structure C_log_Dupes where
 N : Nat
 log_CheckLog : T_log_CheckLog
 log_dupes : T_log_dupes
def log_Dupes_ (g : C_log_Dupes) (a1 : List G_Contact) {R : Type} (k0 : List Int → Int → Option R) : Option R :=
 (g.log_CheckLog a1 (fun r2 => (bif (r2 != 0) then k0 [] r2 else (g.log_dupes a1 (fun r3 => k0 r3 0)))))
noncomputable def I_log_Dupes [Fuel] : C_log_Dupes := ⟨NN, @log_CheckLog _, @log_dupes _⟩
noncomputable def log_Dupes [Fuel] : T_log_Dupes := @log_Dupes_ I_log_Dupes
def SS_log_Dupes (g : T_log_Dupes) : Spec A := fun args => match args with | [.d (.sl 39 a1)] => fun k => g a1 (fun z0 z1 => k (.tup [.arr 3 z0, .d (.int .i64 z1)]) [.undef]) | _ => fun _ => none
noncomputable def code_67 : Code := (Tryz.f67.body).getD .skip
noncomputable def E_log_Dupes (g : C_log_Dupes) : Env A := mkE [(53, SS_log_CheckLog g.log_CheckLog), (131, SS_log_dupes g.log_dupes)] [(11, [0])] [] [] [] [] [] [] [] []
theorem sm_log_Dupes (g : C_log_Dupes) : Same (SS_log_Dupes (@log_Dupes_ g)) (abody (E_log_Dupes g) Tryz.f67 code_67 1 [] [.arr 3, .asis] g.N) := by intro args; unfold SS_log_Dupes; split; exact .inr fun R k => (by kernel_rfl); exact .inl fun R k => rfl
theorem ok_log_Dupes [Fuel] : Ok 67 (SS_log_Dupes (@log_Dupes _)) := okF_of std (.cons ok_log_CheckLog (.cons ok_log_dupes .nil)) ⟨rfl, rfl, by kernel_rfl, rfl, rfl, rfl⟩ (sm_log_Dupes I_log_Dupes) (cuts0 (fun _ => rfl) (by kernel_rfl)) Tryz.func67 (by kernel_rfl) (by kernel_rfl)
abbrev T_slices_Equal__int : Type 1 := List Int → List Int → {R : Type} → (Bool → Option R) → Option R
def slices_Equal__int_L4 (g : Nat) : Nat → List Int → List Int → Int → Int → {R : Type} → (Bool → Option R) → Option R → Option R
 | 0, _, _, _, _, _, _, _ => none
 | n + 1, v3, v4, v5, v6, _, e0, e1 => (bif (decide (v6 < v5)) then (get_ v3 v6 fun x9 => (get_ v4 v6 fun x10 => (bif (x9 != x10) then e0 false else slices_Equal__int_L4 g n v3 v4 v5 (w64 (v6 + 1)) e0 e1))) else e1)
def slices_Equal__int_ (g : Nat) (a1 a2 : List Int) {R : Type} (k0 : Bool → Option R) : Option R :=
 (bif ((a1.length : Int) != (a2.length : Int)) then k0 false else (slices_Equal__int_L4 g g a1 a2 (a1.length : Int) 0 (fun e11 => k0 e11) (k0 true)))
noncomputable def slices_Equal__int [Fuel] : T_slices_Equal__int := @slices_Equal__int_ NN
def SS_slices_Equal__int (g : T_slices_Equal__int) : Spec A := fun args => match args with | [.d (.sl 3 a1), .d (.sl 3 a2)] => fun k => g a1 a2 (fun z0 => k (.d (.bool z0)) [.undef, .undef]) | _ => fun _ => none
def sh_slices_Equal__int_L4 : SSt := mkSh 26 0 [(0, .sl 3), (1, .sl 3), (12, .int .i64), (13, .int .i64)] []
def LP_slices_Equal__int_L4 (g : Nat) (n : Nat) : LPT A := fun ps => match ps with | [.d (.sl 3 p1), .d (.sl 3 p2), .d (.int .i64 p3), .d (.int .i64 p4)] => fun K => slices_Equal__int_L4 g n p1 p2 p3 p4 (fun z0 => K .ret (mkSt 26 0 [(4, .d (.bool z0))] [])) (K (.exit 0) (mkSt 26 0 [] [])) | _ => fun _ => none
noncomputable def code_68 : Code := (Tryz.f68.body).getD .skip
noncomputable def E_slices_Equal__int (g : Nat) : Env A := mkE [] [] [(4, ⟨[0, 1, 12, 13], [], [], [], [], [], []⟩)] [(4, ⟨[4], [], [], [], [], [], []⟩)] [(4, pieceOf sh_slices_Equal__int_L4 (LP_slices_Equal__int_L4 g g))] [] [] [] [] []
theorem ct_slices_Equal__int [Fuel] : NatTab (E_slices_Equal__int NN).C := ct_of (P := Tryz.prog) (T := T) .nil (by kernel_rfl)
noncomputable def cb_slices_Equal__int_L4 : Code := sub [1, 1, 0, 1, 0, 0] code_68
theorem s_slices_Equal__int_L4 (g : Nat) (n : Nat) : StepOk (E_slices_Equal__int g) g cb_slices_Equal__int_L4 sh_slices_Equal__int_L4 (LP_slices_Equal__int_L4 g) n := by intro ps; unfold LP_slices_Equal__int_L4; split; exact .inr fun R K => (by kernel_rfl); exact .inl fun R K => rfl
theorem lf_slices_Equal__int_L4 [Fuel] : LoopFine (E_slices_Equal__int NN) NN cb_slices_Equal__int_L4 := fine_loop sh_slices_Equal__int_L4 (LP_slices_Equal__int_L4 NN) (by kernel_rfl) ct_slices_Equal__int (cuts0 (fun _ => rfl) (by kernel_rfl)) (fun ps R K => by unfold LP_slices_Equal__int_L4; split <;> (try unfold slices_Equal__int_L4) <;> rfl) (s_slices_Equal__int_L4 NN)
theorem sm_slices_Equal__int (g : Nat) : Same (SS_slices_Equal__int (@slices_Equal__int_ g)) (abody (E_slices_Equal__int g) Tryz.f68 code_68 0 [] [.asis] g) := by intro args; unfold SS_slices_Equal__int; split; exact .inr fun R k => (by kernel_rfl); exact .inl fun R k => rfl
theorem ok_slices_Equal__int [Fuel] : Ok 68 (SS_slices_Equal__int (@slices_Equal__int _)) := okF_of std .nil ⟨rfl, rfl, by kernel_rfl, rfl, rfl, rfl⟩ (sm_slices_Equal__int NN) (cutsL (fun _ => rfl) (.cons lf_slices_Equal__int_L4 .nil) (by kernel_rfl)) Tryz.func68 (by kernel_rfl) (by kernel_rfl)
abbrev T_law_logged : Type 1 := {R : Type} → (Bool → Option R) → Option R
structure C_law_logged where
 N : Nat
 log_Dupes : T_log_Dupes
 slices_Equal__int : T_slices_Equal__int
def law_logged_ (g : C_law_logged)  {R : Type} (k0 : Bool → Option R) : Option R :=
 (g.log_Dupes [(⟨0, 1, [98], [107, 49, 97, 98], 0, 0, [], []⟩ : G_Contact), (⟨5, 1, [98], [107, 49, 97, 98], 0, 0, [], []⟩ : G_Contact)] (fun r1 r2 => (bif (r2 == 0) then (g.slices_Equal__int r1 [1] (fun r3 => k0 r3)) else k0 false)))
noncomputable def I_law_logged [Fuel] : C_law_logged := ⟨NN, @log_Dupes _, @slices_Equal__int _⟩
noncomputable def law_logged [Fuel] : T_law_logged := @law_logged_ I_law_logged
def SS_law_logged (g : T_law_logged) : Spec A := fun args => match args with | [] => fun k => g (fun z0 => k (.d (.bool z0)) []) | _ => fun _ => none
noncomputable def code_16 : Code := (Tryz.f16.body).getD .skip
noncomputable def E_law_logged (g : C_law_logged) : Env A := mkE [(67, SS_log_Dupes g.log_Dupes), (68, SS_slices_Equal__int g.slices_Equal__int)] [(1, [0]), (2, [1]), (11, [2]), (12, [3]), (19, [4])] [] [] [] [] [] [] [] []
theorem sm_law_logged (g : C_law_logged) : Same (SS_law_logged (@law_logged_ g)) (abody (E_law_logged g) Tryz.f16 code_16 5 [] [.asis] g.N) := by intro args; unfold SS_law_logged; split; exact .inr fun R k => (by kernel_rfl); exact .inl fun R k => rfl
theorem ok_law_logged [Fuel] : Ok 16 (SS_law_logged (@law_logged _)) := okF_of std (.cons ok_log_Dupes (.cons ok_slices_Equal__int .nil)) ⟨rfl, rfl, by kernel_rfl, rfl, rfl, rfl⟩ (sm_law_logged I_law_logged) (cuts0 (fun _ => rfl) (by kernel_rfl)) Tryz.func16 (by kernel_rfl) (by kernel_rfl)
abbrev T_law_LogTexts : Type 1 := List Int → {R : Type} → (Bool → Option R) → Option R
structure C_law_LogTexts where
 N : Nat
 Stream_Contacts : T_Stream_Contacts
 Stream_Range : T_Stream_Range
 Stream_LogText : T_Stream_LogText
 log_Text : T_log_Text
 Q_LogFault : T_Q_LogFault
 Q_LogLines : T_Q_LogLines
 log_Read : T_log_Read
 Q_LogRead : T_Q_LogRead
 slices_Equal__Contact : T_slices_Equal__Contact
 law_logged : T_law_logged
def law_LogTexts_ (g : C_law_LogTexts) (a1 : List Int) {R : Type} (k0 : Bool → Option R) : Option R :=
 (g.Stream_Range (⟨a1, 0⟩ : G_Stream) 0 6 (fun r2 r3 => (g.Stream_Contacts r3 r2 (fun r4 r5 => (g.Stream_LogText r5 (fun r6 r7 => (g.log_Text r4 (fun r8 r9 => (g.Q_LogFault r4 (fun r10 => (bif (r10 == 0) then (g.Q_LogLines r4 (fun r11 => (g.log_Read r6 (fun r12 r13 r14 => (g.Q_LogRead r6 (fun r15 r16 r17 => (bif (r9 == r10) then (bif (r8 == r11) then (g.slices_Equal__Contact r12 r15 (fun r18 => (bif r18 then (bif (r13 == r16) then (bif (r14 == r17) then (g.law_logged (fun r19 => k0 r19)) else k0 false) else k0 false) else k0 false))) else k0 false) else k0 false))))))) else (g.log_Read r6 (fun r20 r21 r22 => (g.Q_LogRead r6 (fun r23 r24 r25 => (bif (r9 == r10) then (bif (r8 == []) then (g.slices_Equal__Contact r20 r23 (fun r26 => (bif r26 then (bif (r21 == r24) then (bif (r22 == r25) then (g.law_logged (fun r27 => k0 r27)) else k0 false) else k0 false) else k0 false))) else k0 false) else k0 false))))))))))))))))
noncomputable def I_law_LogTexts [Fuel] : C_law_LogTexts := ⟨NN, @Stream_Contacts _, @Stream_Range _, @Stream_LogText _, @log_Text _, @Q_LogFault _, @Q_LogLines _, @log_Read _, @Q_LogRead _, @slices_Equal__Contact _, @law_logged _⟩
noncomputable def law_LogTexts [Fuel] : T_law_LogTexts := @law_LogTexts_ I_law_LogTexts
def SS_law_LogTexts (g : T_law_LogTexts) : Spec A := fun args => match args with | [.d (.sl 3 a1)] => fun k => g a1 (fun z0 => k (.d (.bool z0)) [.undef]) | _ => fun _ => none
noncomputable def code_3 : Code := (Tryz.f3.body).getD .skip
noncomputable def E_law_LogTexts (g : C_law_LogTexts) : Env A := mkE [(7, SS_Stream_Contacts g.Stream_Contacts), (8, SS_Stream_Range g.Stream_Range), (9, SS_Stream_LogText g.Stream_LogText), (10, SS_log_Text g.log_Text), (11, SS_Q_LogFault g.Q_LogFault), (12, SS_Q_LogLines g.Q_LogLines), (13, SS_log_Read g.log_Read), (14, SS_Q_LogRead g.Q_LogRead), (15, SS_slices_Equal__Contact g.slices_Equal__Contact), (16, SS_law_logged g.law_logged)] [(18, [0]), (22, [1]), (38, [2]), (44, [3])] [] [] [] [] [] [] [] []
theorem sm_law_LogTexts (g : C_law_LogTexts) : Same (SS_law_LogTexts (@law_LogTexts_ g)) (abody (E_law_LogTexts g) Tryz.f3 code_3 4 [] [.asis] g.N) := by intro args; unfold SS_law_LogTexts; split; exact .inr fun R k => (by kernel_rfl); exact .inl fun R k => rfl
theorem ok_law_LogTexts [Fuel] : Ok 3 (SS_law_LogTexts (@law_LogTexts _)) := okF_of std (.cons ok_Stream_Contacts (.cons ok_Stream_Range (.cons ok_Stream_LogText (.cons ok_log_Text (.cons ok_Q_LogFault (.cons ok_Q_LogLines (.cons ok_log_Read (.cons ok_Q_LogRead (.cons ok_slices_Equal__Contact (.cons ok_law_logged .nil)))))))))) ⟨rfl, rfl, by kernel_rfl, rfl, rfl, rfl⟩ (sm_law_LogTexts I_law_LogTexts) (cuts0 (fun _ => rfl) (by kernel_rfl)) Tryz.func3 (by kernel_rfl) (by kernel_rfl)
end Go.Am
