/- The functions of the program as Lean functions, each shown to be what the code computes, part 3. No condition: lemmas for the claim. -/
import Derived.Test.YtoajjnhmofegcaaGreatDoorF0
import Derived.Test.YtoajjnhmofegcaaGreatDoorFSh
import Derived.Test.YtoajjnhmofegcaaGreatDoorF1
import Derived.Test.YtoajjnhmofegcaaGreatDoorF2
set_option linter.unusedVariables false
set_option maxRecDepth 100000
namespace Go.Am
open Go Go.Proofs
abbrev T_R_plain : Type 1 := List UInt8 → Int → Int → {R : Type} → (Bool → Option R) → Option R
structure C_R_plain where
 N : Nat
 strings_Trim : T_strings_Trim
 R_in : T_R_in
 strings_ContainsAny : T_strings_ContainsAny
def R_plain_ (g : C_R_plain) (a1 : List UInt8) (a2 a3 : Int) {R : Type} (k0 : Bool → Option R) : Option R :=
 (g.R_in (a1.length : Int) a2 a3 (fun r4 => (bif r4 then (g.strings_Trim a1 [97, 98, 99, 100, 101, 102, 103, 104, 105, 106, 107, 108, 109, 110, 111, 112, 113, 114, 115, 116, 117, 118, 119, 120, 121, 122, 48, 49, 50, 51, 52, 53, 54, 55, 56, 57] (fun r5 => (bif (r5 == []) then (g.strings_ContainsAny a1 [97, 98, 99, 100, 101, 102, 103, 104, 105, 106, 107, 108, 109, 110, 111, 112, 113, 114, 115, 116, 117, 118, 119, 120, 121, 122] (fun r6 => k0 r6)) else k0 false))) else k0 false)))
noncomputable def I_R_plain [Fuel] : C_R_plain := ⟨NN, @strings_Trim _, @R_in _, @strings_ContainsAny _⟩
noncomputable def R_plain [Fuel] : T_R_plain := @R_plain_ I_R_plain
def SS_R_plain (g : T_R_plain) : Spec A := fun args => match args with | [.d (.str a1), .d (.int .i64 a2), .d (.int .i64 a3)] => fun k => g a1 a2 a3 (fun z0 => k (.d (.bool z0)) [.undef, .undef, .undef]) | _ => fun _ => none
noncomputable def code_236 : Code := (Tryz.f236.body).getD .skip
noncomputable def E_R_plain (g : C_R_plain) : Env A := mkE [(179, SS_strings_Trim g.strings_Trim), (237, SS_R_in g.R_in), (238, SS_strings_ContainsAny g.strings_ContainsAny)] [] [] [] [] [] [] [] [] []
theorem sm_R_plain (g : C_R_plain) : Same (SS_R_plain (@R_plain_ g)) (abody (E_R_plain g) Tryz.f236 code_236 0 [] [.asis] g.N) := by intro args; unfold SS_R_plain; split; exact .inr fun R k => (by kernel_rfl); exact .inl fun R k => rfl
theorem ok_R_plain [Fuel] : Ok 236 (SS_R_plain (@R_plain _)) := okF_of std (.cons ok_strings_Trim (.cons ok_R_in (.cons ok_strings_ContainsAny .nil))) ⟨rfl, rfl, by kernel_rfl, rfl, rfl, rfl⟩ (sm_R_plain I_R_plain) (cuts0 (fun _ => rfl) (by kernel_rfl)) Tryz.func236 (by kernel_rfl) (by kernel_rfl)
abbrev T_R_baseAt : Type 1 := List UInt8 → {R : Type} → (Int → Option R) → Option R
structure C_R_baseAt where
 N : Nat
 strings_LastIndexAny : T_strings_LastIndexAny
 R_plain : T_R_plain
 R_in : T_R_in
 strings_ContainsAny : T_strings_ContainsAny
def R_baseAt_ (g : C_R_baseAt) (a1 : List UInt8) {R : Type} (k0 : Int → Option R) : Option R :=
 (g.strings_LastIndexAny a1 [48, 49, 50, 51, 52, 53, 54, 55, 56, 57] (fun r2 => (g.R_plain a1 3 10 (fun r3 => (bif (!r3) then k0 (-1) else (g.R_in r2 1 3 (fun r4 => (bif (!r4) then k0 (-1) else (g.R_in (w64 ((w64 ((a1.length : Int) - 1)) - r2)) 1 4 (fun r5 => (bif (!r5) then k0 (-1) else (bif (decide (0 ≤ r2) && decide (r2 ≤ (a1.length : Int))) then (g.strings_ContainsAny (a1.take (r2 : Int).toNat) [97, 98, 99, 100, 101, 102, 103, 104, 105, 106, 107, 108, 109, 110, 111, 112, 113, 114, 115, 116, 117, 118, 119, 120, 121, 122] (fun r6 => (bif (!r6) then k0 (-1) else k0 r2))) else none))))))))))))
noncomputable def I_R_baseAt [Fuel] : C_R_baseAt := ⟨NN, @strings_LastIndexAny _, @R_plain _, @R_in _, @strings_ContainsAny _⟩
noncomputable def R_baseAt [Fuel] : T_R_baseAt := @R_baseAt_ I_R_baseAt
def SS_R_baseAt (g : T_R_baseAt) : Spec A := fun args => match args with | [.d (.str a1)] => fun k => g a1 (fun z0 => k (.d (.int .i64 z0)) [.undef]) | _ => fun _ => none
noncomputable def code_182 : Code := (Tryz.f182.body).getD .skip
noncomputable def E_R_baseAt (g : C_R_baseAt) : Env A := mkE [(235, SS_strings_LastIndexAny g.strings_LastIndexAny), (236, SS_R_plain g.R_plain), (237, SS_R_in g.R_in), (238, SS_strings_ContainsAny g.strings_ContainsAny)] [] [] [] [] [] [] [] [] []
theorem sm_R_baseAt (g : C_R_baseAt) : Same (SS_R_baseAt (@R_baseAt_ g)) (abody (E_R_baseAt g) Tryz.f182 code_182 0 [] [.asis] g.N) := by intro args; unfold SS_R_baseAt; split; exact .inr fun R k => (by kernel_rfl); exact .inl fun R k => rfl
theorem ok_R_baseAt [Fuel] : Ok 182 (SS_R_baseAt (@R_baseAt _)) := okF_of std (.cons ok_strings_LastIndexAny (.cons ok_R_plain (.cons ok_R_in (.cons ok_strings_ContainsAny .nil)))) ⟨rfl, rfl, by kernel_rfl, rfl, rfl, rfl⟩ (sm_R_baseAt I_R_baseAt) (cuts0 (fun _ => rfl) (by kernel_rfl)) Tryz.func182 (by kernel_rfl) (by kernel_rfl)
abbrev T_R_PartsOf_1 : Type 1 := List UInt8 → {R : Type} → (G_Parts → Option R) → Option R
structure C_R_PartsOf_1 where
 N : Nat
 R_baseAt : T_R_baseAt
def R_PartsOf_1_ (g : C_R_PartsOf_1) (a1 : List UInt8) {R : Type} (k0 : G_Parts → Option R) : Option R :=
 (g.R_baseAt a1 (fun r2 => (bif (decide (0 ≤ (w64 (r2 + 1))) && decide ((w64 (r2 + 1)) ≤ (a1.length : Int))) then (bif (decide (0 ≤ (w64 (r2 + 1))) && decide ((w64 (r2 + 1)) ≤ (a1.length : Int))) then k0 (⟨a1, (a1.take ((w64 (r2 + 1)) : Int).toNat), (a1.drop ((w64 (r2 + 1)) : Int).toNat), 0, []⟩ : G_Parts) else none) else none)))
noncomputable def I_R_PartsOf_1 [Fuel] : C_R_PartsOf_1 := ⟨NN, @R_baseAt _⟩
noncomputable def R_PartsOf_1 [Fuel] : T_R_PartsOf_1 := @R_PartsOf_1_ I_R_PartsOf_1
def SS_R_PartsOf_1 (g : T_R_PartsOf_1) : Spec A := fun args => match args with | [.d (.str a1)] => fun k => g a1 (fun z0 => k (.agg [.d (.str z0.f_Base), .d (.str z0.f_Prefix), .d (.str z0.f_Suffix), .d (.int .i64 z0.f_Kind), .d (.str z0.f_Added)]) [.undef]) | _ => fun _ => none
noncomputable def code_181 : Code := (Tryz.f181.body).getD .skip
noncomputable def E_R_PartsOf_1 (g : C_R_PartsOf_1) : Env A := mkE [(182, SS_R_baseAt g.R_baseAt)] [(2, [0])] [] [] [] [] [] [] [] []
theorem sm_R_PartsOf_1 (g : C_R_PartsOf_1) : Same (SS_R_PartsOf_1 (@R_PartsOf_1_ g)) (abody (E_R_PartsOf_1 g) Tryz.f181 code_181 1 [] [.asis] g.N) := by intro args; unfold SS_R_PartsOf_1; split; exact .inr fun R k => (by kernel_rfl); exact .inl fun R k => rfl
theorem ok_R_PartsOf_1 [Fuel] : Ok 181 (SS_R_PartsOf_1 (@R_PartsOf_1 _)) := okF_of std (.cons ok_R_baseAt .nil) ⟨rfl, rfl, by kernel_rfl, rfl, rfl, rfl⟩ (sm_R_PartsOf_1 I_R_PartsOf_1) (cuts0 (fun _ => rfl) (by kernel_rfl)) Tryz.func181 (by kernel_rfl) (by kernel_rfl)
abbrev T_R_begin : Type 1 := List UInt8 → {R : Type} → (Bool → Option R) → Option R
structure C_R_begin where
 N : Nat
 R_plain : T_R_plain
def R_begin_ (g : C_R_begin) (a1 : List UInt8) {R : Type} (k0 : Bool → Option R) : Option R :=
 (g.R_plain a1 1 4 (fun r2 => k0 r2))
noncomputable def I_R_begin [Fuel] : C_R_begin := ⟨NN, @R_plain _⟩
noncomputable def R_begin [Fuel] : T_R_begin := @R_begin_ I_R_begin
def SS_R_begin (g : T_R_begin) : Spec A := fun args => match args with | [.d (.str a1)] => fun k => g a1 (fun z0 => k (.d (.bool z0)) [.undef]) | _ => fun _ => none
noncomputable def code_183 : Code := (Tryz.f183.body).getD .skip
noncomputable def E_R_begin (g : C_R_begin) : Env A := mkE [(236, SS_R_plain g.R_plain)] [] [] [] [] [] [] [] [] []
theorem sm_R_begin (g : C_R_begin) : Same (SS_R_begin (@R_begin_ g)) (abody (E_R_begin g) Tryz.f183 code_183 0 [] [.asis] g.N) := by intro args; unfold SS_R_begin; split; exact .inr fun R k => (by kernel_rfl); exact .inl fun R k => rfl
theorem ok_R_begin [Fuel] : Ok 183 (SS_R_begin (@R_begin _)) := okF_of std (.cons ok_R_plain .nil) ⟨rfl, rfl, by kernel_rfl, rfl, rfl, rfl⟩ (sm_R_begin I_R_begin) (cuts0 (fun _ => rfl) (by kernel_rfl)) Tryz.func183 (by kernel_rfl) (by kernel_rfl)
abbrev T_strings_Index : Type 1 := List UInt8 → List UInt8 → {R : Type} → (Int → Option R) → Option R
structure C_strings_Index where
 N : Nat
 stringslite_Index : T_stringslite_Index
def strings_Index_ (g : C_strings_Index) (a1 a2 : List UInt8) {R : Type} (k0 : Int → Option R) : Option R :=
 (g.stringslite_Index a1 a2 (fun r3 => k0 r3))
noncomputable def I_strings_Index [Fuel] : C_strings_Index := ⟨NN, @stringslite_Index _⟩
noncomputable def strings_Index [Fuel] : T_strings_Index := @strings_Index_ I_strings_Index
def SS_strings_Index (g : T_strings_Index) : Spec A := fun args => match args with | [.d (.str a1), .d (.str a2)] => fun k => g a1 a2 (fun z0 => k (.d (.int .i64 z0)) [.undef, .undef]) | _ => fun _ => none
noncomputable def code_217 : Code := (Tryz.f217.body).getD .skip
noncomputable def E_strings_Index (g : C_strings_Index) : Env A := mkE [(218, SS_stringslite_Index g.stringslite_Index)] [] [] [] [] [] [] [] [] []
theorem sm_strings_Index (g : C_strings_Index) : Same (SS_strings_Index (@strings_Index_ g)) (abody (E_strings_Index g) Tryz.f217 code_217 0 [] [.asis] g.N) := by intro args; unfold SS_strings_Index; split; exact .inr fun R k => (by kernel_rfl); exact .inl fun R k => rfl
theorem ok_strings_Index [Fuel] : Ok 217 (SS_strings_Index (@strings_Index _)) := okF_of std (.cons ok_stringslite_Index .nil) ⟨rfl, rfl, by kernel_rfl, rfl, rfl, rfl⟩ (sm_strings_Index I_strings_Index) (cuts0 (fun _ => rfl) (by kernel_rfl)) Tryz.func217 (by kernel_rfl) (by kernel_rfl)
abbrev T_strings_Contains : Type 1 := List UInt8 → List UInt8 → {R : Type} → (Bool → Option R) → Option R
structure C_strings_Contains where
 N : Nat
 strings_Index : T_strings_Index
def strings_Contains_ (g : C_strings_Contains) (a1 a2 : List UInt8) {R : Type} (k0 : Bool → Option R) : Option R :=
 (g.strings_Index a1 a2 (fun r3 => k0 (decide (r3 ≥ 0))))
noncomputable def I_strings_Contains [Fuel] : C_strings_Contains := ⟨NN, @strings_Index _⟩
noncomputable def strings_Contains [Fuel] : T_strings_Contains := @strings_Contains_ I_strings_Contains
def SS_strings_Contains (g : T_strings_Contains) : Spec A := fun args => match args with | [.d (.str a1), .d (.str a2)] => fun k => g a1 a2 (fun z0 => k (.d (.bool z0)) [.undef, .undef]) | _ => fun _ => none
noncomputable def code_184 : Code := (Tryz.f184.body).getD .skip
noncomputable def E_strings_Contains (g : C_strings_Contains) : Env A := mkE [(217, SS_strings_Index g.strings_Index)] [] [] [] [] [] [] [] [] []
theorem sm_strings_Contains (g : C_strings_Contains) : Same (SS_strings_Contains (@strings_Contains_ g)) (abody (E_strings_Contains g) Tryz.f184 code_184 0 [] [.asis] g.N) := by intro args; unfold SS_strings_Contains; split; exact .inr fun R k => (by kernel_rfl); exact .inl fun R k => rfl
theorem ok_strings_Contains [Fuel] : Ok 184 (SS_strings_Contains (@strings_Contains _)) := okF_of std (.cons ok_strings_Index .nil) ⟨rfl, rfl, by kernel_rfl, rfl, rfl, rfl⟩ (sm_strings_Contains I_strings_Contains) (cuts0 (fun _ => rfl) (by kernel_rfl)) Tryz.func184 (by kernel_rfl) (by kernel_rfl)
abbrev T_R_PartsOf : Type 1 := List UInt8 → {R : Type} → (G_Parts → Bool → Option R) → Option R
structure C_R_PartsOf where
 N : Nat
 strings_Cut : T_strings_Cut
 R_PartsOf_1 : T_R_PartsOf_1
 R_baseAt : T_R_baseAt
 R_begin : T_R_begin
 strings_Contains : T_strings_Contains
def R_PartsOf_ (g : C_R_PartsOf) (a1 : List UInt8) {R : Type} (k0 : G_Parts → Bool → Option R) : Option R :=
 (g.strings_Cut a1 [47] (fun r2 r3 r4 => (bif (decide ((a1.length : Int) > 14)) then k0 (⟨[], [], [], 0, []⟩ : G_Parts) false else (bif (!r4) then (g.R_baseAt r2 (fun r5 => (bif (decide (r5 < 0)) then k0 (⟨[], [], [], 0, []⟩ : G_Parts) false else (g.R_PartsOf_1 r2 (fun r6 => k0 r6 true))))) else (g.R_baseAt r3 (fun r7 => (bif (decide (r7 ≥ 0)) then (g.R_begin r2 (fun r8 => (bif r8 then (g.R_PartsOf_1 r3 (fun r9 => k0 (⟨r9.f_Base, r9.f_Prefix, r9.f_Suffix, 1, r2⟩ : G_Parts) true)) else (g.R_baseAt r2 (fun r10 => (bif (decide (r10 < 0)) then k0 (⟨[], [], [], 0, []⟩ : G_Parts) false else (g.R_PartsOf_1 r2 (fun r11 => (bif (r3 == [112]) then k0 (⟨r11.f_Base, r11.f_Prefix, r11.f_Suffix, 3, r11.f_Added⟩ : G_Parts) true else (bif (r3 == [109]) then k0 (⟨r11.f_Base, r11.f_Prefix, r11.f_Suffix, 4, r11.f_Added⟩ : G_Parts) true else (bif (r3 == [109, 109]) then k0 (⟨r11.f_Base, r11.f_Prefix, r11.f_Suffix, 5, r11.f_Added⟩ : G_Parts) true else (bif (r3 == [97, 109]) then k0 (⟨r11.f_Base, r11.f_Prefix, r11.f_Suffix, 6, r11.f_Added⟩ : G_Parts) true else (bif ((r3.length : Int) == 1) then (g.strings_Contains [48, 49, 50, 51, 52, 53, 54, 55, 56, 57] r3 (fun r12 => (bif r12 then k0 (⟨r11.f_Base, r11.f_Prefix, r11.f_Suffix, 2, r3⟩ : G_Parts) true else (g.R_begin r3 (fun r13 => (bif r13 then k0 (⟨r11.f_Base, r11.f_Prefix, r11.f_Suffix, 1, r3⟩ : G_Parts) true else k0 (⟨[], [], [], 0, []⟩ : G_Parts) false)))))) else (g.R_begin r3 (fun r14 => (bif r14 then k0 (⟨r11.f_Base, r11.f_Prefix, r11.f_Suffix, 1, r3⟩ : G_Parts) true else k0 (⟨[], [], [], 0, []⟩ : G_Parts) false)))))))))))))))) else (g.R_baseAt r2 (fun r15 => (bif (decide (r15 < 0)) then k0 (⟨[], [], [], 0, []⟩ : G_Parts) false else (g.R_PartsOf_1 r2 (fun r16 => (bif (r3 == [112]) then k0 (⟨r16.f_Base, r16.f_Prefix, r16.f_Suffix, 3, r16.f_Added⟩ : G_Parts) true else (bif (r3 == [109]) then k0 (⟨r16.f_Base, r16.f_Prefix, r16.f_Suffix, 4, r16.f_Added⟩ : G_Parts) true else (bif (r3 == [109, 109]) then k0 (⟨r16.f_Base, r16.f_Prefix, r16.f_Suffix, 5, r16.f_Added⟩ : G_Parts) true else (bif (r3 == [97, 109]) then k0 (⟨r16.f_Base, r16.f_Prefix, r16.f_Suffix, 6, r16.f_Added⟩ : G_Parts) true else (bif ((r3.length : Int) == 1) then (g.strings_Contains [48, 49, 50, 51, 52, 53, 54, 55, 56, 57] r3 (fun r17 => (bif r17 then k0 (⟨r16.f_Base, r16.f_Prefix, r16.f_Suffix, 2, r3⟩ : G_Parts) true else (g.R_begin r3 (fun r18 => (bif r18 then k0 (⟨r16.f_Base, r16.f_Prefix, r16.f_Suffix, 1, r3⟩ : G_Parts) true else k0 (⟨[], [], [], 0, []⟩ : G_Parts) false)))))) else (g.R_begin r3 (fun r19 => (bif r19 then k0 (⟨r16.f_Base, r16.f_Prefix, r16.f_Suffix, 1, r3⟩ : G_Parts) true else k0 (⟨[], [], [], 0, []⟩ : G_Parts) false))))))))))))))))))))
noncomputable def I_R_PartsOf [Fuel] : C_R_PartsOf := ⟨NN, @strings_Cut _, @R_PartsOf_1 _, @R_baseAt _, @R_begin _, @strings_Contains _⟩
noncomputable def R_PartsOf [Fuel] : T_R_PartsOf := @R_PartsOf_ I_R_PartsOf
def SS_R_PartsOf (g : T_R_PartsOf) : Spec A := fun args => match args with | [.d (.str a1)] => fun k => g a1 (fun z0 z1 => k (.tup [.agg [.d (.str z0.f_Base), .d (.str z0.f_Prefix), .d (.str z0.f_Suffix), .d (.int .i64 z0.f_Kind), .d (.str z0.f_Added)], .d (.bool z1)]) [.undef]) | _ => fun _ => none
noncomputable def code_140 : Code := (Tryz.f140.body).getD .skip
noncomputable def E_R_PartsOf (g : C_R_PartsOf) : Env A := mkE [(128, SS_strings_Cut g.strings_Cut), (181, SS_R_PartsOf_1 g.R_PartsOf_1), (182, SS_R_baseAt g.R_baseAt), (183, SS_R_begin g.R_begin), (184, SS_strings_Contains g.strings_Contains)] [(2, [0]), (8, [1]), (9, [2])] [] [] [] [] [] [] [] []
theorem sm_R_PartsOf (g : C_R_PartsOf) : Same (SS_R_PartsOf (@R_PartsOf_ g)) (abody (E_R_PartsOf g) Tryz.f140 code_140 3 [] [.asis, .asis] g.N) := by intro args; unfold SS_R_PartsOf; split; exact .inr fun R k => (by kernel_rfl); exact .inl fun R k => rfl
theorem ok_R_PartsOf [Fuel] : Ok 140 (SS_R_PartsOf (@R_PartsOf _)) := okF_of std (.cons ok_strings_Cut (.cons ok_R_PartsOf_1 (.cons ok_R_baseAt (.cons ok_R_begin (.cons ok_strings_Contains .nil))))) ⟨rfl, rfl, by kernel_rfl, rfl, rfl, rfl⟩ (sm_R_PartsOf I_R_PartsOf) (cuts0 (fun _ => rfl) (by kernel_rfl)) Tryz.func140 (by kernel_rfl) (by kernel_rfl)
abbrev T_Q_Call : Type 1 := List UInt8 → {R : Type} → (Bool → Option R) → Option R
structure C_Q_Call where
 N : Nat
 R_PartsOf : T_R_PartsOf
def Q_Call_ (g : C_Q_Call) (a1 : List UInt8) {R : Type} (k0 : Bool → Option R) : Option R :=
 (g.R_PartsOf a1 (fun r2 r3 => k0 r3))
noncomputable def I_Q_Call [Fuel] : C_Q_Call := ⟨NN, @R_PartsOf _⟩
noncomputable def Q_Call [Fuel] : T_Q_Call := @Q_Call_ I_Q_Call
def SS_Q_Call (g : T_Q_Call) : Spec A := fun args => match args with | [.d (.str a1)] => fun k => g a1 (fun z0 => k (.d (.bool z0)) [.undef]) | _ => fun _ => none
noncomputable def code_84 : Code := (Tryz.f84.body).getD .skip
noncomputable def E_Q_Call (g : C_Q_Call) : Env A := mkE [(140, SS_R_PartsOf g.R_PartsOf)] [(3, [0])] [] [] [] [] [] [] [] []
theorem sm_Q_Call (g : C_Q_Call) : Same (SS_Q_Call (@Q_Call_ g)) (abody (E_Q_Call g) Tryz.f84 code_84 1 [] [.asis] g.N) := by intro args; unfold SS_Q_Call; split; exact .inr fun R k => (by kernel_rfl); exact .inl fun R k => rfl
theorem ok_Q_Call [Fuel] : Ok 84 (SS_Q_Call (@Q_Call _)) := okF_of std (.cons ok_R_PartsOf .nil) ⟨rfl, rfl, by kernel_rfl, rfl, rfl, rfl⟩ (sm_Q_Call I_Q_Call) (cuts0 (fun _ => rfl) (by kernel_rfl)) Tryz.func84 (by kernel_rfl) (by kernel_rfl)
abbrev T_strings_IndexByte : Type 1 := List UInt8 → Int → {R : Type} → (Int → Option R) → Option R
def strings_IndexByte [Fuel] : T_strings_IndexByte := @X_ixb
def SS_strings_IndexByte (g : T_strings_IndexByte) : Spec A := SSX_ixb g
theorem ok_strings_IndexByte [Fuel] : Ok 178 (SS_strings_IndexByte (@strings_IndexByte _)) := ⟨ssx_ixb_sound (ixb_sound (Any.strings_IndexByte Tryz.lays137)), ssx_ixb_nat, enters_of (fn := Tryz.f178) Tryz.func178 (by kernel_rfl) (by kernel_rfl)⟩
abbrev T_Q_only : Type 1 := List UInt8 → List UInt8 → {R : Type} → (Bool → Option R) → Option R
structure C_Q_only where
 N : Nat
 strings_IndexByte : T_strings_IndexByte
def Q_only_L2 (g : C_Q_only) : Nat → List UInt8 → List UInt8 → Int → Int → {R : Type} → (Bool → Option R) → Option R → Option R
 | 0, _, _, _, _, _, _, _ => none
 | n + 1, v3, v4, v5, v6, _, e0, e1 => (bif (decide (v6 < v5)) then (get_ v3 v6 fun x9 => (g.strings_IndexByte v4 (x9.toNat : Int) (fun r10 => (bif (decide (r10 < 0)) then e0 false else Q_only_L2 g n v3 v4 v5 (w64 (v6 + 1)) e0 e1)))) else e1)
def Q_only_ (g : C_Q_only) (a1 a2 : List UInt8) {R : Type} (k0 : Bool → Option R) : Option R :=
 (Q_only_L2 g g.N a1 a2 (a1.length : Int) 0 (fun e11 => k0 e11) (k0 true))
noncomputable def I_Q_only [Fuel] : C_Q_only := ⟨NN, @strings_IndexByte _⟩
noncomputable def Q_only [Fuel] : T_Q_only := @Q_only_ I_Q_only
def SS_Q_only (g : T_Q_only) : Spec A := fun args => match args with | [.d (.str a1), .d (.str a2)] => fun k => g a1 a2 (fun z0 => k (.d (.bool z0)) [.undef, .undef]) | _ => fun _ => none
def sh_Q_only_L2 : SSt := mkSh 18 0 [(0, .str), (1, .str), (7, .int .i64), (8, .int .i64)] []
def LP_Q_only_L2 (g : C_Q_only) (n : Nat) : LPT A := fun ps => match ps with | [.d (.str p1), .d (.str p2), .d (.int .i64 p3), .d (.int .i64 p4)] => fun K => Q_only_L2 g n p1 p2 p3 p4 (fun z0 => K .ret (mkSt 18 0 [(4, .d (.bool z0))] [])) (K (.exit 0) (mkSt 18 0 [] [])) | _ => fun _ => none
noncomputable def code_141 : Code := (Tryz.f141.body).getD .skip
noncomputable def E_Q_only (g : C_Q_only) : Env A := mkE [(178, SS_strings_IndexByte g.strings_IndexByte)] [] [(2, ⟨[0, 1, 7, 8], [], [], [], [], [], []⟩)] [(2, ⟨[4], [], [], [], [], [], []⟩)] [(2, pieceOf sh_Q_only_L2 (LP_Q_only_L2 g g.N))] [] [] [] [] []
theorem ct_Q_only [Fuel] : NatTab (E_Q_only I_Q_only).C := ct_of (P := Tryz.prog) (T := T) (.cons ok_strings_IndexByte .nil) (by kernel_rfl)
noncomputable def cb_Q_only_L2 : Code := sub [1, 0, 1, 0, 0] code_141
theorem s_Q_only_L2 (g : C_Q_only) (n : Nat) : StepOk (E_Q_only g) g.N cb_Q_only_L2 sh_Q_only_L2 (LP_Q_only_L2 g) n := by intro ps; unfold LP_Q_only_L2; split; exact .inr fun R K => (by kernel_rfl); exact .inl fun R K => rfl
theorem lf_Q_only_L2 [Fuel] : LoopFine (E_Q_only I_Q_only) NN cb_Q_only_L2 := fine_loop sh_Q_only_L2 (LP_Q_only_L2 I_Q_only) (by kernel_rfl) ct_Q_only (cuts0 (fun _ => rfl) (by kernel_rfl)) (fun ps R K => by unfold LP_Q_only_L2; split <;> (try unfold Q_only_L2) <;> rfl) (s_Q_only_L2 I_Q_only)
theorem sm_Q_only (g : C_Q_only) : Same (SS_Q_only (@Q_only_ g)) (abody (E_Q_only g) Tryz.f141 code_141 0 [] [.asis] g.N) := by intro args; unfold SS_Q_only; split; exact .inr fun R k => (by kernel_rfl); exact .inl fun R k => rfl
theorem ok_Q_only [Fuel] : Ok 141 (SS_Q_only (@Q_only _)) := okF_of std (.cons ok_strings_IndexByte .nil) ⟨rfl, rfl, by kernel_rfl, rfl, rfl, rfl⟩ (sm_Q_only I_Q_only) (cutsL (fun _ => rfl) (.cons lf_Q_only_L2 .nil) (by kernel_rfl)) Tryz.func141 (by kernel_rfl) (by kernel_rfl)
abbrev T_Q_Key : Type 1 := List UInt8 → {R : Type} → (Bool → Option R) → Option R
structure C_Q_Key where
 N : Nat
 Q_in : T_Q_in
 Q_only : T_Q_only
def Q_Key_ (g : C_Q_Key) (a1 : List UInt8) {R : Type} (k0 : Bool → Option R) : Option R :=
 (g.Q_in (a1.length : Int) 1 40 (fun r2 => (bif r2 then (bif (decide (0 ≤ 1) && decide (1 ≤ (a1.length : Int))) then (g.Q_only (a1.take (1 : Int).toNat) [97, 98, 99, 100, 101, 102, 103, 104, 105, 106, 107, 108, 109, 110, 111, 112, 113, 114, 115, 116, 117, 118, 119, 120, 121, 122] (fun r3 => (bif r3 then (g.Q_only a1 [97, 98, 99, 100, 101, 102, 103, 104, 105, 106, 107, 108, 109, 110, 111, 112, 113, 114, 115, 116, 117, 118, 119, 120, 121, 122, 48, 49, 50, 51, 52, 53, 54, 55, 56, 57, 45, 95] (fun r4 => k0 r4)) else k0 false))) else none) else k0 false)))
noncomputable def I_Q_Key [Fuel] : C_Q_Key := ⟨NN, @Q_in _, @Q_only _⟩
noncomputable def Q_Key [Fuel] : T_Q_Key := @Q_Key_ I_Q_Key
def SS_Q_Key (g : T_Q_Key) : Spec A := fun args => match args with | [.d (.str a1)] => fun k => g a1 (fun z0 => k (.d (.bool z0)) [.undef]) | _ => fun _ => none
noncomputable def code_85 : Code := (Tryz.f85.body).getD .skip
noncomputable def E_Q_Key (g : C_Q_Key) : Env A := mkE [(83, SS_Q_in g.Q_in), (141, SS_Q_only g.Q_only)] [] [] [] [] [] [] [] [] []
theorem sm_Q_Key (g : C_Q_Key) : Same (SS_Q_Key (@Q_Key_ g)) (abody (E_Q_Key g) Tryz.f85 code_85 0 [] [.asis] g.N) := by intro args; unfold SS_Q_Key; split; exact .inr fun R k => (by kernel_rfl); exact .inl fun R k => rfl
theorem ok_Q_Key [Fuel] : Ok 85 (SS_Q_Key (@Q_Key _)) := okF_of std (.cons ok_Q_in (.cons ok_Q_only .nil)) ⟨rfl, rfl, by kernel_rfl, rfl, rfl, rfl⟩ (sm_Q_Key I_Q_Key) (cuts0 (fun _ => rfl) (by kernel_rfl)) Tryz.func85 (by kernel_rfl) (by kernel_rfl)
abbrev T_Q_CardsFault : Type 1 := List G_Card → {R : Type} → (Int → Option R) → Option R
structure C_Q_CardsFault where
 N : Nat
 Q_CardOrder : T_Q_CardOrder
 Q_Moment : T_Q_Moment
 Q_in : T_Q_in
 Q_Call : T_Q_Call
 Q_Key : T_Q_Key
def Q_CardsFault_L4 (g : C_Q_CardsFault) : Nat → List G_Card → List G_Card → Int → Int → {R : Type} → (Int → Option R) → Option R → Option R
 | 0, _, _, _, _, _, _, _ => none
 | n + 1, v2, v3, v4, v5, _, e0, e1 => (bif (decide (v5 < v4)) then (get_ v3 v5 fun x14 => (g.Q_Moment x14.f_At (fun r15 => (bif (!r15) then e0 1 else (g.Q_in x14.f_Kind 1 3 (fun r16 => (bif (!r16) then e0 4 else (g.Q_in x14.f_Mode 1 3 (fun r17 => (bif (!r17) then e0 4 else (g.Q_Call x14.f_Call (fun r18 => (bif (!r18) then e0 3 else (g.Q_Key x14.f_Band (fun r19 => (bif (!r19) then e0 5 else (bif (decide (v5 > 0)) then (get_ v2 (w64 (v5 - 1)) fun x20 => (g.Q_CardOrder x20 x14 (fun r21 => (bif (decide (r21 ≥ 0)) then e0 7 else Q_CardsFault_L4 g n v2 v3 v4 (w64 (v5 + 1)) e0 e1)))) else Q_CardsFault_L4 g n v2 v3 v4 (w64 (v5 + 1)) e0 e1))))))))))))))))) else e1)
def Q_CardsFault_ (g : C_Q_CardsFault) (a1 : List G_Card) {R : Type} (k0 : Int → Option R) : Option R :=
 (bif (decide ((a1.length : Int) > 3000)) then k0 2 else (Q_CardsFault_L4 g g.N a1 a1 (a1.length : Int) 0 (fun e22 => k0 e22) (k0 0)))
noncomputable def I_Q_CardsFault [Fuel] : C_Q_CardsFault := ⟨NN, @Q_CardOrder _, @Q_Moment _, @Q_in _, @Q_Call _, @Q_Key _⟩
noncomputable def Q_CardsFault [Fuel] : T_Q_CardsFault := @Q_CardsFault_ I_Q_CardsFault
def SS_Q_CardsFault (g : T_Q_CardsFault) : Spec A := fun args => match args with | [.d (.sl 51 a1)] => fun k => g a1 (fun z0 => k (.d (.int .i64 z0)) [.undef]) | _ => fun _ => none
def sh_Q_CardsFault_L4 : SSt := mkSh 55 1 [(0, .sl 51), (8, .sl 51), (9, .int .i64), (10, .int .i64)] []
def LP_Q_CardsFault_L4 (g : C_Q_CardsFault) (n : Nat) : LPT A := fun ps => match ps with | [.d (.sl 51 p1), .d (.sl 51 p2), .d (.int .i64 p3), .d (.int .i64 p4)] => fun K => Q_CardsFault_L4 g n p1 p2 p3 p4 (fun z0 => K .ret (mkSt 55 1 [(2, .d (.int .i64 z0))] [])) (K (.exit 0) (mkSt 55 1 [] [])) | _ => fun _ => none
noncomputable def code_20 : Code := (Tryz.f20.body).getD .skip
noncomputable def E_Q_CardsFault (g : C_Q_CardsFault) : Env A := mkE [(74, SS_Q_CardOrder g.Q_CardOrder), (82, SS_Q_Moment g.Q_Moment), (83, SS_Q_in g.Q_in), (84, SS_Q_Call g.Q_Call), (85, SS_Q_Key g.Q_Key)] [(4, [0])] [(4, ⟨[0, 8, 9, 10], [], [], [], [], [], []⟩)] [(4, ⟨[2], [], [], [], [], [], []⟩)] [(4, pieceOf sh_Q_CardsFault_L4 (LP_Q_CardsFault_L4 g g.N))] [] [] [] [] []
theorem ct_Q_CardsFault [Fuel] : NatTab (E_Q_CardsFault I_Q_CardsFault).C := ct_of (P := Tryz.prog) (T := T) (.cons ok_Q_CardOrder (.cons ok_Q_Moment (.cons ok_Q_in (.cons ok_Q_Call (.cons ok_Q_Key .nil))))) (by kernel_rfl)
noncomputable def cb_Q_CardsFault_L4 : Code := sub [1, 1, 0, 1, 0, 0] code_20
theorem s_Q_CardsFault_L4 (g : C_Q_CardsFault) (n : Nat) : StepOk (E_Q_CardsFault g) g.N cb_Q_CardsFault_L4 sh_Q_CardsFault_L4 (LP_Q_CardsFault_L4 g) n := by intro ps; unfold LP_Q_CardsFault_L4; split; exact .inr fun R K => (by kernel_rfl); exact .inl fun R K => rfl
theorem lf_Q_CardsFault_L4 [Fuel] : LoopFine (E_Q_CardsFault I_Q_CardsFault) NN cb_Q_CardsFault_L4 := fine_loop sh_Q_CardsFault_L4 (LP_Q_CardsFault_L4 I_Q_CardsFault) (by kernel_rfl) ct_Q_CardsFault (cuts0 (fun _ => rfl) (by kernel_rfl)) (fun ps R K => by unfold LP_Q_CardsFault_L4; split <;> (try unfold Q_CardsFault_L4) <;> rfl) (s_Q_CardsFault_L4 I_Q_CardsFault)
theorem sm_Q_CardsFault (g : C_Q_CardsFault) : Same (SS_Q_CardsFault (@Q_CardsFault_ g)) (abody (E_Q_CardsFault g) Tryz.f20 code_20 1 [] [.asis] g.N) := by intro args; unfold SS_Q_CardsFault; split; exact .inr fun R k => (by kernel_rfl); exact .inl fun R k => rfl
theorem ok_Q_CardsFault [Fuel] : Ok 20 (SS_Q_CardsFault (@Q_CardsFault _)) := okF_of std (.cons ok_Q_CardOrder (.cons ok_Q_Moment (.cons ok_Q_in (.cons ok_Q_Call (.cons ok_Q_Key .nil))))) ⟨rfl, rfl, by kernel_rfl, rfl, rfl, rfl⟩ (sm_Q_CardsFault I_Q_CardsFault) (cutsL (fun _ => rfl) (.cons lf_Q_CardsFault_L4 .nil) (by kernel_rfl)) Tryz.func20 (by kernel_rfl) (by kernel_rfl)
abbrev T_Stream_RightCards : Type 1 := G_Stream → Int → {R : Type} → (List G_Card → G_Stream → Option R) → Option R
structure C_Stream_RightCards where
 N : Nat
 Stream_Cards : T_Stream_Cards
 Q_CardsFault : T_Q_CardsFault
def Stream_RightCards_L2 (g : C_Stream_RightCards) : Nat → Int → Int → G_Stream → {R : Type} → (G_Stream → List G_Card → Option R) → (G_Stream → Option R) → Option R
 | 0, _, _, _, _, _, _ => none
 | n + 1, v3, v4, v5, _, e0, e1 => (bif (decide (v4 < 5)) then (g.Stream_Cards v5 v3 (fun r9 r10 => (g.Q_CardsFault r9 (fun r11 => (bif (r11 == 0) then e0 r10 r9 else Stream_RightCards_L2 g n v3 (w64 (v4 + 1)) r10 e0 e1))))) else e1 v5)
def Stream_RightCards_ (g : C_Stream_RightCards) (a1 : G_Stream) (a2 : Int) {R : Type} (k0 : List G_Card → G_Stream → Option R) : Option R :=
 (Stream_RightCards_L2 g g.N a2 0 a1 (fun e12 e13 => k0 e13 e12) (fun e14 => k0 [] e14))
noncomputable def I_Stream_RightCards [Fuel] : C_Stream_RightCards := ⟨NN, @Stream_Cards _, @Q_CardsFault _⟩
noncomputable def Stream_RightCards [Fuel] : T_Stream_RightCards := @Stream_RightCards_ I_Stream_RightCards
def SS_Stream_RightCards (g : T_Stream_RightCards) : Spec A := fun args => match args with | [.box [.d (.sl 3 a1), .d (.int .i64 a2)], .d (.int .i64 a3)] => fun k => g ⟨a1, a2⟩ a3 (fun z0 z1 => k (.arr 51 z0) [.box [.d (.sl 3 z1.f_L), .d (.int .i64 z1.f_at)], .undef]) | _ => fun _ => none
def sh_Stream_RightCards_L2 : SSt := mkSh 16 2 [(0, .ptr 0 0), (1, .int .i64), (6, .int .i64)] [(0, .box [.sl 3, .int .i64])]
def LP_Stream_RightCards_L2 (g : C_Stream_RightCards) (n : Nat) : LPT A := fun ps => match ps with | [.d (.int .i64 p1), .d (.int .i64 p2), .d (.sl 3 p3), .d (.int .i64 p4)] => fun K => Stream_RightCards_L2 g n p1 p2 ⟨p3, p4⟩ (fun z0 z1 => K .ret (mkSt 16 2 [(0, .ptr 0 0), (4, .own 51 1)] [(0, some (.box [.d (.sl 3 z0.f_L), .d (.int .i64 z0.f_at)])), (1, some (.row 51 z1))])) (fun z0 => K (.exit 0) (mkSt 16 2 [(0, .ptr 0 0)] [(0, some (.box [.d (.sl 3 z0.f_L), .d (.int .i64 z0.f_at)]))])) | _ => fun _ => none
noncomputable def code_76 : Code := (Tryz.f76.body).getD .skip
noncomputable def E_Stream_RightCards (g : C_Stream_RightCards) : Env A := mkE [(17, SS_Stream_Cards g.Stream_Cards), (20, SS_Q_CardsFault g.Q_CardsFault)] [(10, [1])] [(2, ⟨[0, 1, 6], [], [0], [], [], [], []⟩)] [(2, ⟨[0, 4], [], [0, 1], [], [], [], []⟩)] [(2, pieceOf sh_Stream_RightCards_L2 (LP_Stream_RightCards_L2 g g.N))] [] [] [] [] [0]
theorem ct_Stream_RightCards [Fuel] : NatTab (E_Stream_RightCards I_Stream_RightCards).C := ct_of (P := Tryz.prog) (T := T) (.cons ok_Stream_Cards (.cons ok_Q_CardsFault .nil)) (by kernel_rfl)
noncomputable def cb_Stream_RightCards_L2 : Code := sub [1, 0, 1, 0, 0] code_76
theorem s_Stream_RightCards_L2 (g : C_Stream_RightCards) (n : Nat) : StepOk (E_Stream_RightCards g) g.N cb_Stream_RightCards_L2 sh_Stream_RightCards_L2 (LP_Stream_RightCards_L2 g) n := by intro ps; unfold LP_Stream_RightCards_L2; split; exact .inr fun R K => (by kernel_rfl); exact .inl fun R K => rfl
theorem lf_Stream_RightCards_L2 [Fuel] : LoopFine (E_Stream_RightCards I_Stream_RightCards) NN cb_Stream_RightCards_L2 := fine_loop sh_Stream_RightCards_L2 (LP_Stream_RightCards_L2 I_Stream_RightCards) (by kernel_rfl) ct_Stream_RightCards (cuts0 (fun _ => rfl) (by kernel_rfl)) (fun ps R K => by unfold LP_Stream_RightCards_L2; split <;> (try unfold Stream_RightCards_L2) <;> rfl) (s_Stream_RightCards_L2 I_Stream_RightCards)
theorem sm_Stream_RightCards (g : C_Stream_RightCards) : Same (SS_Stream_RightCards (@Stream_RightCards_ g)) (abody (E_Stream_RightCards g) Tryz.f76 code_76 2 [0] [.arr 51] g.N) := by intro args; unfold SS_Stream_RightCards; split; exact .inr fun R k => (by kernel_rfl); exact .inl fun R k => rfl
theorem ok_Stream_RightCards [Fuel] : Ok 76 (SS_Stream_RightCards (@Stream_RightCards _)) := okF_of std (.cons ok_Stream_Cards (.cons ok_Q_CardsFault .nil)) ⟨rfl, rfl, by kernel_rfl, rfl, rfl, rfl⟩ (sm_Stream_RightCards I_Stream_RightCards) (cutsL (fun _ => rfl) (.cons lf_Stream_RightCards_L2 .nil) (by kernel_rfl)) Tryz.func76 (by kernel_rfl) (by kernel_rfl)
abbrev T_strconv_Itoa : Type 1 := Int → {R : Type} → (List UInt8 → Option R) → Option R
def strconv_Itoa [Fuel] : T_strconv_Itoa := @X_itoa
def SS_strconv_Itoa (g : T_strconv_Itoa) : Spec A := SSX_itoa g
theorem ok_strconv_Itoa [Fuel] : Ok 79 (SS_strconv_Itoa (@strconv_Itoa _)) := ⟨ssx_itoa_sound (fun w h => h) (fun n w h0 h1 ht => Any.strconv_Itoa Tryz.laysM171 n h0 h1 w ht), ssx_itoa_nat, enters_of (fn := Tryz.f79) Tryz.func79 (by kernel_rfl) (by kernel_rfl)⟩
abbrev T_Q_cardWords : Type 1 := {R : Type} → (List (List UInt8) → Option R) → Option R
def Q_cardWords_ (g : Nat)  {R : Type} (k0 : List (List UInt8) → Option R) : Option R :=
 k0 [[], [115, 101, 110, 116], [99, 97, 109, 101], [114, 101, 116, 117, 114, 110, 101, 100]]
noncomputable def Q_cardWords [Fuel] : T_Q_cardWords := @Q_cardWords_ NN
def SS_Q_cardWords (g : T_Q_cardWords) : Spec A := fun args => match args with | [] => fun k => g (fun z0 => k (.arr 9 z0) []) | _ => fun _ => none
noncomputable def code_87 : Code := (Tryz.f87.body).getD .skip
noncomputable def E_Q_cardWords (g : Nat) : Env A := mkE [] [(1, [0])] [] [] [] [] [] [] [] []
theorem sm_Q_cardWords (g : Nat) : Same (SS_Q_cardWords (@Q_cardWords_ g)) (abody (E_Q_cardWords g) Tryz.f87 code_87 1 [] [.arr 9] g) := by intro args; unfold SS_Q_cardWords; split; exact .inr fun R k => (by kernel_rfl); exact .inl fun R k => rfl
theorem ok_Q_cardWords [Fuel] : Ok 87 (SS_Q_cardWords (@Q_cardWords _)) := okF_of std .nil ⟨rfl, rfl, by kernel_rfl, rfl, rfl, rfl⟩ (sm_Q_cardWords NN) (cuts0 (fun _ => rfl) (by kernel_rfl)) Tryz.func87 (by kernel_rfl) (by kernel_rfl)
abbrev T_Q_plainModes : Type 1 := {R : Type} → (List (List UInt8) → Option R) → Option R
def Q_plainModes_ (g : Nat)  {R : Type} (k0 : List (List UInt8) → Option R) : Option R :=
 k0 [[], [99, 111, 100, 101], [118, 111, 105, 99, 101], [100, 97, 116, 97]]
noncomputable def Q_plainModes [Fuel] : T_Q_plainModes := @Q_plainModes_ NN
def SS_Q_plainModes (g : T_Q_plainModes) : Spec A := fun args => match args with | [] => fun k => g (fun z0 => k (.arr 9 z0) []) | _ => fun _ => none
noncomputable def code_88 : Code := (Tryz.f88.body).getD .skip
noncomputable def E_Q_plainModes (g : Nat) : Env A := mkE [] [(1, [0])] [] [] [] [] [] [] [] []
theorem sm_Q_plainModes (g : Nat) : Same (SS_Q_plainModes (@Q_plainModes_ g)) (abody (E_Q_plainModes g) Tryz.f88 code_88 1 [] [.arr 9] g) := by intro args; unfold SS_Q_plainModes; split; exact .inr fun R k => (by kernel_rfl); exact .inl fun R k => rfl
theorem ok_Q_plainModes [Fuel] : Ok 88 (SS_Q_plainModes (@Q_plainModes _)) := okF_of std .nil ⟨rfl, rfl, by kernel_rfl, rfl, rfl, rfl⟩ (sm_Q_plainModes NN) (cuts0 (fun _ => rfl) (by kernel_rfl)) Tryz.func88 (by kernel_rfl) (by kernel_rfl)
abbrev T_strings_Join : Type 1 := List (List UInt8) → List UInt8 → {R : Type} → (List UInt8 → Option R) → Option R
def strings_Join [Fuel] : T_strings_Join := @X_join (List UInt8) (fun x => x)
def SS_strings_Join (g : T_strings_Join) : Spec A := fun args => match args with | [.d (.sl 9 a1), .d (.str a2)] => fun k => g a1 a2 (fun z => k (.d (.str z)) [.undef, .undef]) | _ => fun _ => none
theorem h1_strings_Join [Fuel] (xs : List (A 9)) (sep : List UInt8) (R : Type) (k : IV A → List (IV A) → Option R) : SS_strings_Join (@strings_Join _) [.d (.sl 9 xs), .d (.str sep)] k = X_join (α := A 9) (fun (x : List UInt8) => x) xs sep (fun z => k (.d (.str z)) [.undef, .undef]) := by kernel_rfl
theorem h2_strings_Join [Fuel] (args : List (IV A)) (R : Type) (k : IV A → List (IV A) → Option R) (h : ∀ (xs : List (A 9)) (sep : List UInt8), args ≠ [.d (.sl 9 xs), .d (.str sep)]) : SS_strings_Join (@strings_Join _) args k = none := by unfold SS_strings_Join; split; exact absurd rfl (h _ _); rfl
theorem ok_strings_Join [Fuel] : Ok 86 (SS_strings_Join (@strings_Join _)) := ⟨join_fs rfl (e := 9) (fun (x : List UInt8) => x) (fun _ => rfl) rfl (fun a c sep w => Go.Proofs.Any.strings_Join_none Tryz.lays156 Tryz.bx156 a c sep w) (fun bk o c xs sep w h1 h2 h3 h4 h5 => Go.Proofs.Any.strings_Join Tryz.lays156 Tryz.bx156 bk o c xs sep w h1 h2 h3 h4 h5) h1_strings_Join h2_strings_Join, join_na (e := 9) (fun (x : List UInt8) => x) h1_strings_Join h2_strings_Join, enters_of (fn := Tryz.f86) Tryz.func86 (by kernel_rfl) (by kernel_rfl)⟩
abbrev T_Q_CardLines : Type 1 := List G_Card → {R : Type} → (List UInt8 → Option R) → Option R
structure C_Q_CardLines where
 N : Nat
 strconv_Itoa : T_strconv_Itoa
 strings_Join : T_strings_Join
 Q_cardWords : T_Q_cardWords
 Q_plainModes : T_Q_plainModes
def Q_CardLines_L3 (g : C_Q_CardLines) : Nat → List UInt8 → List G_Card → Int → Int → {R : Type} → (List UInt8 → Option R) → Option R
 | 0, _, _, _, _, _, _ => none
 | n + 1, v2, v3, v4, v5, _, e0 => (bif (decide (v5 < v4)) then (get_ v3 v5 fun x13 => (g.strconv_Itoa x13.f_At (fun r14 => (g.Q_cardWords (fun r15 => (inr r15 x13.f_Kind (at_ r15 x13.f_Kind fun x16 => (g.Q_plainModes (fun r17 => (inr r17 x13.f_Mode (at_ r17 x13.f_Mode fun x18 => (g.strings_Join [r14, x16, x13.f_Call, x13.f_Band, x18] [32] (fun r19 => (bif (strOk r19 [10]) then (bif (strOk v2 (r19 ++ [10])) then Q_CardLines_L3 g n (v2 ++ (r19 ++ [10])) v3 v4 (w64 (v5 + 1)) e0 else none) else none)))))))))))))) else e0 v2)
def Q_CardLines_ (g : C_Q_CardLines) (a1 : List G_Card) {R : Type} (k0 : List UInt8 → Option R) : Option R :=
 (Q_CardLines_L3 g g.N [] a1 (a1.length : Int) 0 (fun e20 => k0 e20))
noncomputable def I_Q_CardLines [Fuel] : C_Q_CardLines := ⟨NN, @strconv_Itoa _, @strings_Join _, @Q_cardWords _, @Q_plainModes _⟩
noncomputable def Q_CardLines [Fuel] : T_Q_CardLines := @Q_CardLines_ I_Q_CardLines
def SS_Q_CardLines (g : T_Q_CardLines) : Spec A := fun args => match args with | [.d (.sl 51 a1)] => fun k => g a1 (fun z0 => k (.d (.str z0)) [.undef]) | _ => fun _ => none
def sh_Q_CardLines_L3 : SSt := mkSh 36 4 [(3, .str), (6, .sl 51), (7, .int .i64), (8, .int .i64)] []
def LP_Q_CardLines_L3 (g : C_Q_CardLines) (n : Nat) : LPT A := fun ps => match ps with | [.d (.str p1), .d (.sl 51 p2), .d (.int .i64 p3), .d (.int .i64 p4)] => fun K => Q_CardLines_L3 g n p1 p2 p3 p4 (fun z0 => K (.exit 0) (mkSt 36 4 [(3, .d (.str z0))] [])) | _ => fun _ => none
noncomputable def code_21 : Code := (Tryz.f21.body).getD .skip
noncomputable def E_Q_CardLines (g : C_Q_CardLines) : Env A := mkE [(79, SS_strconv_Itoa g.strconv_Itoa), (86, SS_strings_Join g.strings_Join), (87, SS_Q_cardWords g.Q_cardWords), (88, SS_Q_plainModes g.Q_plainModes)] [(5, [0]), (16, [1]), (25, [2]), (30, [3])] [(3, ⟨[3, 6, 7, 8], [], [], [], [], [], []⟩)] [(3, ⟨[3], [], [], [], [], [], []⟩)] [(3, pieceOf sh_Q_CardLines_L3 (LP_Q_CardLines_L3 g g.N))] [] [] [] [] []
theorem ct_Q_CardLines [Fuel] : NatTab (E_Q_CardLines I_Q_CardLines).C := ct_of (P := Tryz.prog) (T := T) (.cons ok_strconv_Itoa (.cons ok_strings_Join (.cons ok_Q_cardWords (.cons ok_Q_plainModes .nil)))) (by kernel_rfl)
noncomputable def cb_Q_CardLines_L3 : Code := sub [1, 1, 0, 1, 0, 0] code_21
theorem s_Q_CardLines_L3 (g : C_Q_CardLines) (n : Nat) : StepOk (E_Q_CardLines g) g.N cb_Q_CardLines_L3 sh_Q_CardLines_L3 (LP_Q_CardLines_L3 g) n := by intro ps; unfold LP_Q_CardLines_L3; split; exact .inr fun R K => (by kernel_rfl); exact .inl fun R K => rfl
theorem lf_Q_CardLines_L3 [Fuel] : LoopFine (E_Q_CardLines I_Q_CardLines) NN cb_Q_CardLines_L3 := fine_loop sh_Q_CardLines_L3 (LP_Q_CardLines_L3 I_Q_CardLines) (by kernel_rfl) ct_Q_CardLines (cuts0 (fun _ => rfl) (by kernel_rfl)) (fun ps R K => by unfold LP_Q_CardLines_L3; split <;> (try unfold Q_CardLines_L3) <;> rfl) (s_Q_CardLines_L3 I_Q_CardLines)
theorem sm_Q_CardLines (g : C_Q_CardLines) : Same (SS_Q_CardLines (@Q_CardLines_ g)) (abody (E_Q_CardLines g) Tryz.f21 code_21 4 [] [.asis] g.N) := by intro args; unfold SS_Q_CardLines; split; exact .inr fun R k => (by kernel_rfl); exact .inl fun R k => rfl
theorem ok_Q_CardLines [Fuel] : Ok 21 (SS_Q_CardLines (@Q_CardLines _)) := okF_of std (.cons ok_strconv_Itoa (.cons ok_strings_Join (.cons ok_Q_cardWords (.cons ok_Q_plainModes .nil)))) ⟨rfl, rfl, by kernel_rfl, rfl, rfl, rfl⟩ (sm_Q_CardLines I_Q_CardLines) (cutsL (fun _ => rfl) (.cons lf_Q_CardLines_L3 .nil) (by kernel_rfl)) Tryz.func21 (by kernel_rfl) (by kernel_rfl)
abbrev T_Stream_Changed : Type 1 := G_Stream → List UInt8 → List UInt8 → {R : Type} → (List UInt8 → G_Stream → Option R) → Option R
structure C_Stream_Changed where
 N : Nat
 Stream_Next : T_Stream_Next
def Stream_Changed_ (g : C_Stream_Changed) (a1 : G_Stream) (a2 a3 : List UInt8) {R : Type} (k0 : List UInt8 → G_Stream → Option R) : Option R :=
 (bif (a2 == []) then k0 a3 a1 else (bif (a3 == []) then k0 a3 a1 else (g.Stream_Next a1 (a2.length : Int) (fun r4 r5 => (g.Stream_Next r5 (a3.length : Int) (fun r6 r7 => (get_ a3 r6 fun x8 => (g.Stream_Next r7 3 (fun r9 r10 => (bif (r9 == 0) then (bif (decide (0 ≤ r4) && decide (r4 ≤ (a2.length : Int))) then (bif (decide (0 ≤ (IntKind.i32.wrap (x8.toNat : Int))) && decide ((IntKind.i32.wrap (x8.toNat : Int)) < 128)) then (bif (strOk (a2.take (r4 : Int).toNat) [((IntKind.i32.wrap (x8.toNat : Int))).toNat.toUInt8]) then (bif (decide (0 ≤ (w64 (r4 + 1))) && decide ((w64 (r4 + 1)) ≤ (a2.length : Int))) then (bif (strOk ((a2.take (r4 : Int).toNat) ++ [((IntKind.i32.wrap (x8.toNat : Int))).toNat.toUInt8]) (a2.drop ((w64 (r4 + 1)) : Int).toNat)) then k0 (((a2.take (r4 : Int).toNat) ++ [((IntKind.i32.wrap (x8.toNat : Int))).toNat.toUInt8]) ++ (a2.drop ((w64 (r4 + 1)) : Int).toNat)) r10 else none) else none) else none) else none) else none) else (bif (r9 == 1) then (bif (decide (0 ≤ r4) && decide (r4 ≤ (a2.length : Int))) then (bif (decide (0 ≤ (IntKind.i32.wrap (x8.toNat : Int))) && decide ((IntKind.i32.wrap (x8.toNat : Int)) < 128)) then (bif (strOk (a2.take (r4 : Int).toNat) [((IntKind.i32.wrap (x8.toNat : Int))).toNat.toUInt8]) then (bif (decide (0 ≤ r4) && decide (r4 ≤ (a2.length : Int))) then (bif (strOk ((a2.take (r4 : Int).toNat) ++ [((IntKind.i32.wrap (x8.toNat : Int))).toNat.toUInt8]) (a2.drop (r4 : Int).toNat)) then k0 (((a2.take (r4 : Int).toNat) ++ [((IntKind.i32.wrap (x8.toNat : Int))).toNat.toUInt8]) ++ (a2.drop (r4 : Int).toNat)) r10 else none) else none) else none) else none) else none) else (bif (decide (0 ≤ r4) && decide (r4 ≤ (a2.length : Int))) then (bif (decide (0 ≤ (w64 (r4 + 1))) && decide ((w64 (r4 + 1)) ≤ (a2.length : Int))) then (bif (strOk (a2.take (r4 : Int).toNat) (a2.drop ((w64 (r4 + 1)) : Int).toNat)) then k0 ((a2.take (r4 : Int).toNat) ++ (a2.drop ((w64 (r4 + 1)) : Int).toNat)) r10 else none) else none) else none))))))))))))
noncomputable def I_Stream_Changed [Fuel] : C_Stream_Changed := ⟨NN, @Stream_Next _⟩
noncomputable def Stream_Changed [Fuel] : T_Stream_Changed := @Stream_Changed_ I_Stream_Changed
def SS_Stream_Changed (g : T_Stream_Changed) : Spec A := fun args => match args with | [.box [.d (.sl 3 a1), .d (.int .i64 a2)], .d (.str a3), .d (.str a4)] => fun k => g ⟨a1, a2⟩ a3 a4 (fun z0 z1 => k (.d (.str z0)) [.box [.d (.sl 3 z1.f_L), .d (.int .i64 z1.f_at)], .undef, .undef]) | _ => fun _ => none
noncomputable def code_52 : Code := (Tryz.f52.body).getD .skip
noncomputable def E_Stream_Changed (g : C_Stream_Changed) : Env A := mkE [(50, SS_Stream_Next g.Stream_Next)] [] [] [] [] [] [] [] [] [0]
theorem sm_Stream_Changed (g : C_Stream_Changed) : Same (SS_Stream_Changed (@Stream_Changed_ g)) (abody (E_Stream_Changed g) Tryz.f52 code_52 1 [0] [.asis] g.N) := by intro args; unfold SS_Stream_Changed; split; exact .inr fun R k => (by kernel_rfl); exact .inl fun R k => rfl
theorem ok_Stream_Changed [Fuel] : Ok 52 (SS_Stream_Changed (@Stream_Changed _)) := okF_of std (.cons ok_Stream_Next .nil) ⟨rfl, rfl, by kernel_rfl, rfl, rfl, rfl⟩ (sm_Stream_Changed I_Stream_Changed) (cuts0 (fun _ => rfl) (by kernel_rfl)) Tryz.func52 (by kernel_rfl) (by kernel_rfl)
end Go.Am
