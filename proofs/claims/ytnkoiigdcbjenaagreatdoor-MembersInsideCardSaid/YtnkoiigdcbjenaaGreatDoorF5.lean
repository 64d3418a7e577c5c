/- The functions of the program as Lean functions, each shown to be what the code computes, part 5. No condition: lemmas for the claim. -/
import Derived.Test.YtnkoiigdcbjenaaGreatDoorF0
import Derived.Test.YtnkoiigdcbjenaaGreatDoorFSh
import Derived.Test.YtnkoiigdcbjenaaGreatDoorF1
import Derived.Test.YtnkoiigdcbjenaaGreatDoorF2
import Derived.Test.YtnkoiigdcbjenaaGreatDoorF4
set_option linter.unusedVariables false
set_option maxRecDepth 100000
namespace Go.Am
open Go Go.Proofs
abbrev T_strings_ContainsAny : Type 1 := List UInt8 → List UInt8 → {R : Type} → (Bool → Option R) → Option R
def strings_ContainsAny [Fuel] : T_strings_ContainsAny := @X_cany
def SS_strings_ContainsAny (g : T_strings_ContainsAny) : Spec A := SSX_cany g
theorem ok_strings_ContainsAny [Fuel] : Ok 185 (SS_strings_ContainsAny (@strings_ContainsAny _)) := ⟨ssx_cany_sound (cany_sound rfl (fun s cs w h1 h2 h3 h4 => Any.strings_ContainsAny_laid Tryz.lays150 (by kernel_rfl) s cs w h1 h2 h3 h4)), ssx_cany_nat, enters_of (fn := Tryz.f185) Tryz.func185 (by kernel_rfl) (by kernel_rfl)⟩
abbrev T_R_plain : Type 1 := List UInt8 → Int → Int → {R : Type} → (Bool → Option R) → Option R
structure C_R_plain where
  N : Nat
  strings_Trim : T_strings_Trim
  R_in : T_R_in
  strings_ContainsAny : T_strings_ContainsAny
def R_plain_ (g : C_R_plain) (a1 : List UInt8) (a2 a3 : Int) {R : Type} (k0 : Bool → Option R) : Option R :=
  (g.R_in (a1.length : Int) a2 a3 (fun r4 => (bif r4 then (g.strings_Trim a1 [97, 98, 99, 100, 101, 102, 103, 104, 105, 106, 107, 108, 109, 110, 111, 112, 113, 114, 115, 116, 117, 118, 119, 120, 121, 122, 48, 49, 50, 51, 52, 53, 54, 55, 56, 57] (fun r5 => (bif (r5 == []) then (g.strings_ContainsAny a1 [97, 98, 99, 100, 101, 102, 103, 104, 105, 106, 107, 108, 109, 110, 111, 112, 113, 114, 115, 116, 117, 118, 119, 120, 121, 122] (fun r6 => k0 r6)) else k0 false))) else k0 false)))
noncomputable def I_R_plain [Fuel] : C_R_plain := ⟨NN, @strings_Trim _, @R_in _, @strings_ContainsAny _⟩
noncomputable def R_plain [Fuel] : T_R_plain := @R_plain_ I_R_plain
def SS_R_plain (g : T_R_plain) : Spec A := fun args => match args with | [.d (.str a1), .d (.int .i64 a2), .d (.int .i64 a3)] => fun k => g a1 a2 a3 (fun z0 => k (.d (.bool z0)) [.undef, .undef, .undef]) | _ => fun _ => none
noncomputable def code_183 : Code := (Tryz.f183.body).getD .skip
noncomputable def E_R_plain (g : C_R_plain) : Env A := mkE [(120, SS_strings_Trim g.strings_Trim), (184, SS_R_in g.R_in), (185, SS_strings_ContainsAny g.strings_ContainsAny)] [] [] [] [] [] [] [] [] []
theorem sm_R_plain (g : C_R_plain) : Same (SS_R_plain (@R_plain_ g)) (abody (E_R_plain g) Tryz.f183 code_183 0 [] [.asis] g.N) := by intro args; unfold SS_R_plain; split; exact .inr fun R k => (by kernel_rfl); exact .inl fun R k => rfl
theorem ok_R_plain [Fuel] : Ok 183 (SS_R_plain (@R_plain _)) := okF_of std (.cons ok_strings_Trim (.cons ok_R_in (.cons ok_strings_ContainsAny .nil))) ⟨rfl, rfl, by kernel_rfl, rfl, rfl, rfl⟩ (sm_R_plain I_R_plain) (cuts0 (fun _ => rfl) (by kernel_rfl)) Tryz.func183 (by kernel_rfl) (by kernel_rfl)
abbrev T_R_baseAt : Type 1 := List UInt8 → {R : Type} → (Int → Option R) → Option R
structure C_R_baseAt where
  N : Nat
  strings_LastIndexAny : T_strings_LastIndexAny
  R_plain : T_R_plain
  R_in : T_R_in
  strings_ContainsAny : T_strings_ContainsAny
def R_baseAt_ (g : C_R_baseAt) (a1 : List UInt8) {R : Type} (k0 : Int → Option R) : Option R :=
  (g.strings_LastIndexAny a1 [48, 49, 50, 51, 52, 53, 54, 55, 56, 57] (fun r2 => (g.R_plain a1 3 10 (fun r3 => (bif (!r3) then k0 (-1) else (g.R_in r2 1 3 (fun r4 => (bif (!r4) then k0 (-1) else (g.R_in (w64 ((w64 ((a1.length : Int) - 1)) - r2)) 1 4 (fun r5 => (bif (!r5) then k0 (-1) else (bif (decide (0 ≤ r2) && decide (r2 ≤ (a1.length : Int))) then (g.strings_ContainsAny (a1.take (r2 : Int).toNat) [97, 98, 99, 100, 101, 102, 103, 104, 105, 106, 107, 108, 109, 110, 111, 112, 113, 114, 115, 116, 117, 118, 119, 120, 121, 122] (fun r6 => (bif (!r6) then k0 (-1) else k0 r2))) else none))))))))))))
noncomputable def I_R_baseAt [Fuel] : C_R_baseAt := ⟨NN, @strings_LastIndexAny _, @R_plain _, @R_in _, @strings_ContainsAny _⟩
noncomputable def R_baseAt [Fuel] : T_R_baseAt := @R_baseAt_ I_R_baseAt
def SS_R_baseAt (g : T_R_baseAt) : Spec A := fun args => match args with | [.d (.str a1)] => fun k => g a1 (fun z0 => k (.d (.int .i64 z0)) [.undef]) | _ => fun _ => none
noncomputable def code_136 : Code := (Tryz.f136.body).getD .skip
noncomputable def E_R_baseAt (g : C_R_baseAt) : Env A := mkE [(182, SS_strings_LastIndexAny g.strings_LastIndexAny), (183, SS_R_plain g.R_plain), (184, SS_R_in g.R_in), (185, SS_strings_ContainsAny g.strings_ContainsAny)] [] [] [] [] [] [] [] [] []
theorem sm_R_baseAt (g : C_R_baseAt) : Same (SS_R_baseAt (@R_baseAt_ g)) (abody (E_R_baseAt g) Tryz.f136 code_136 0 [] [.asis] g.N) := by intro args; unfold SS_R_baseAt; split; exact .inr fun R k => (by kernel_rfl); exact .inl fun R k => rfl
theorem ok_R_baseAt [Fuel] : Ok 136 (SS_R_baseAt (@R_baseAt _)) := okF_of std (.cons ok_strings_LastIndexAny (.cons ok_R_plain (.cons ok_R_in (.cons ok_strings_ContainsAny .nil)))) ⟨rfl, rfl, by kernel_rfl, rfl, rfl, rfl⟩ (sm_R_baseAt I_R_baseAt) (cuts0 (fun _ => rfl) (by kernel_rfl)) Tryz.func136 (by kernel_rfl) (by kernel_rfl)
abbrev T_R_PartsOf_1 : Type 1 := List UInt8 → {R : Type} → (G_Parts → Option R) → Option R
structure C_R_PartsOf_1 where
  N : Nat
  R_baseAt : T_R_baseAt
def R_PartsOf_1_ (g : C_R_PartsOf_1) (a1 : List UInt8) {R : Type} (k0 : G_Parts → Option R) : Option R :=
  (g.R_baseAt a1 (fun r2 => (bif (decide (0 ≤ (w64 (r2 + 1))) && decide ((w64 (r2 + 1)) ≤ (a1.length : Int))) then (bif (decide (0 ≤ (w64 (r2 + 1))) && decide ((w64 (r2 + 1)) ≤ (a1.length : Int))) then k0 (⟨a1, (a1.take ((w64 (r2 + 1)) : Int).toNat), (a1.drop ((w64 (r2 + 1)) : Int).toNat), 0, []⟩ : G_Parts) else none) else none)))
noncomputable def I_R_PartsOf_1 [Fuel] : C_R_PartsOf_1 := ⟨NN, @R_baseAt _⟩
noncomputable def R_PartsOf_1 [Fuel] : T_R_PartsOf_1 := @R_PartsOf_1_ I_R_PartsOf_1
def SS_R_PartsOf_1 (g : T_R_PartsOf_1) : Spec A := fun args => match args with | [.d (.str a1)] => fun k => g a1 (fun z0 => k (.agg [.d (.str z0.f_Base), .d (.str z0.f_Prefix), .d (.str z0.f_Suffix), .d (.int .i64 z0.f_Kind), .d (.str z0.f_Added)]) [.undef]) | _ => fun _ => none
noncomputable def code_135 : Code := (Tryz.f135.body).getD .skip
noncomputable def E_R_PartsOf_1 (g : C_R_PartsOf_1) : Env A := mkE [(136, SS_R_baseAt g.R_baseAt)] [(2, [0])] [] [] [] [] [] [] [] []
theorem sm_R_PartsOf_1 (g : C_R_PartsOf_1) : Same (SS_R_PartsOf_1 (@R_PartsOf_1_ g)) (abody (E_R_PartsOf_1 g) Tryz.f135 code_135 1 [] [.asis] g.N) := by intro args; unfold SS_R_PartsOf_1; split; exact .inr fun R k => (by kernel_rfl); exact .inl fun R k => rfl
theorem ok_R_PartsOf_1 [Fuel] : Ok 135 (SS_R_PartsOf_1 (@R_PartsOf_1 _)) := okF_of std (.cons ok_R_baseAt .nil) ⟨rfl, rfl, by kernel_rfl, rfl, rfl, rfl⟩ (sm_R_PartsOf_1 I_R_PartsOf_1) (cuts0 (fun _ => rfl) (by kernel_rfl)) Tryz.func135 (by kernel_rfl) (by kernel_rfl)
abbrev T_R_begin : Type 1 := List UInt8 → {R : Type} → (Bool → Option R) → Option R
structure C_R_begin where
  N : Nat
  R_plain : T_R_plain
def R_begin_ (g : C_R_begin) (a1 : List UInt8) {R : Type} (k0 : Bool → Option R) : Option R :=
  (g.R_plain a1 1 4 (fun r2 => k0 r2))
noncomputable def I_R_begin [Fuel] : C_R_begin := ⟨NN, @R_plain _⟩
noncomputable def R_begin [Fuel] : T_R_begin := @R_begin_ I_R_begin
def SS_R_begin (g : T_R_begin) : Spec A := fun args => match args with | [.d (.str a1)] => fun k => g a1 (fun z0 => k (.d (.bool z0)) [.undef]) | _ => fun _ => none
noncomputable def code_137 : Code := (Tryz.f137.body).getD .skip
noncomputable def E_R_begin (g : C_R_begin) : Env A := mkE [(183, SS_R_plain g.R_plain)] [] [] [] [] [] [] [] [] []
theorem sm_R_begin (g : C_R_begin) : Same (SS_R_begin (@R_begin_ g)) (abody (E_R_begin g) Tryz.f137 code_137 0 [] [.asis] g.N) := by intro args; unfold SS_R_begin; split; exact .inr fun R k => (by kernel_rfl); exact .inl fun R k => rfl
theorem ok_R_begin [Fuel] : Ok 137 (SS_R_begin (@R_begin _)) := okF_of std (.cons ok_R_plain .nil) ⟨rfl, rfl, by kernel_rfl, rfl, rfl, rfl⟩ (sm_R_begin I_R_begin) (cuts0 (fun _ => rfl) (by kernel_rfl)) Tryz.func137 (by kernel_rfl) (by kernel_rfl)
abbrev T_strings_Index : Type 1 := List UInt8 → List UInt8 → {R : Type} → (Int → Option R) → Option R
structure C_strings_Index where
  N : Nat
  stringslite_Index : T_stringslite_Index
def strings_Index_ (g : C_strings_Index) (a1 a2 : List UInt8) {R : Type} (k0 : Int → Option R) : Option R :=
  (g.stringslite_Index a1 a2 (fun r3 => k0 r3))
noncomputable def I_strings_Index [Fuel] : C_strings_Index := ⟨NN, @stringslite_Index _⟩
noncomputable def strings_Index [Fuel] : T_strings_Index := @strings_Index_ I_strings_Index
def SS_strings_Index (g : T_strings_Index) : Spec A := fun args => match args with | [.d (.str a1), .d (.str a2)] => fun k => g a1 a2 (fun z0 => k (.d (.int .i64 z0)) [.undef, .undef]) | _ => fun _ => none
noncomputable def code_186 : Code := (Tryz.f186.body).getD .skip
noncomputable def E_strings_Index (g : C_strings_Index) : Env A := mkE [(217, SS_stringslite_Index g.stringslite_Index)] [] [] [] [] [] [] [] [] []
theorem sm_strings_Index (g : C_strings_Index) : Same (SS_strings_Index (@strings_Index_ g)) (abody (E_strings_Index g) Tryz.f186 code_186 0 [] [.asis] g.N) := by intro args; unfold SS_strings_Index; split; exact .inr fun R k => (by kernel_rfl); exact .inl fun R k => rfl
theorem ok_strings_Index [Fuel] : Ok 186 (SS_strings_Index (@strings_Index _)) := okF_of std (.cons ok_stringslite_Index .nil) ⟨rfl, rfl, by kernel_rfl, rfl, rfl, rfl⟩ (sm_strings_Index I_strings_Index) (cuts0 (fun _ => rfl) (by kernel_rfl)) Tryz.func186 (by kernel_rfl) (by kernel_rfl)
abbrev T_strings_Contains : Type 1 := List UInt8 → List UInt8 → {R : Type} → (Bool → Option R) → Option R
structure C_strings_Contains where
  N : Nat
  strings_Index : T_strings_Index
def strings_Contains_ (g : C_strings_Contains) (a1 a2 : List UInt8) {R : Type} (k0 : Bool → Option R) : Option R :=
  (g.strings_Index a1 a2 (fun r3 => k0 (decide (r3 ≥ 0))))
noncomputable def I_strings_Contains [Fuel] : C_strings_Contains := ⟨NN, @strings_Index _⟩
noncomputable def strings_Contains [Fuel] : T_strings_Contains := @strings_Contains_ I_strings_Contains
def SS_strings_Contains (g : T_strings_Contains) : Spec A := fun args => match args with | [.d (.str a1), .d (.str a2)] => fun k => g a1 a2 (fun z0 => k (.d (.bool z0)) [.undef, .undef]) | _ => fun _ => none
noncomputable def code_138 : Code := (Tryz.f138.body).getD .skip
noncomputable def E_strings_Contains (g : C_strings_Contains) : Env A := mkE [(186, SS_strings_Index g.strings_Index)] [] [] [] [] [] [] [] [] []
theorem sm_strings_Contains (g : C_strings_Contains) : Same (SS_strings_Contains (@strings_Contains_ g)) (abody (E_strings_Contains g) Tryz.f138 code_138 0 [] [.asis] g.N) := by intro args; unfold SS_strings_Contains; split; exact .inr fun R k => (by kernel_rfl); exact .inl fun R k => rfl
theorem ok_strings_Contains [Fuel] : Ok 138 (SS_strings_Contains (@strings_Contains _)) := okF_of std (.cons ok_strings_Index .nil) ⟨rfl, rfl, by kernel_rfl, rfl, rfl, rfl⟩ (sm_strings_Contains I_strings_Contains) (cuts0 (fun _ => rfl) (by kernel_rfl)) Tryz.func138 (by kernel_rfl) (by kernel_rfl)
abbrev T_R_PartsOf : Type 1 := List UInt8 → {R : Type} → (G_Parts → Bool → Option R) → Option R
structure C_R_PartsOf where
  N : Nat
  strings_Cut : T_strings_Cut
  R_PartsOf_1 : T_R_PartsOf_1
  R_baseAt : T_R_baseAt
  R_begin : T_R_begin
  strings_Contains : T_strings_Contains
def R_PartsOf_ (g : C_R_PartsOf) (a1 : List UInt8) {R : Type} (k0 : G_Parts → Bool → Option R) : Option R :=
  (g.strings_Cut a1 [47] (fun r2 r3 r4 => (bif (decide ((a1.length : Int) > 14)) then k0 (⟨[], [], [], 0, []⟩ : G_Parts) false else (bif (!r4) then (g.R_baseAt r2 (fun r5 => (bif (decide (r5 < 0)) then k0 (⟨[], [], [], 0, []⟩ : G_Parts) false else (g.R_PartsOf_1 r2 (fun r6 => k0 r6 true))))) else (g.R_baseAt r3 (fun r7 => (bif (decide (r7 ≥ 0)) then (g.R_begin r2 (fun r8 => (bif r8 then (g.R_PartsOf_1 r3 (fun r9 => k0 (⟨r9.f_Base, r9.f_Prefix, r9.f_Suffix, 1, r2⟩ : G_Parts) true)) else (g.R_baseAt r2 (fun r10 => (bif (decide (r10 < 0)) then k0 (⟨[], [], [], 0, []⟩ : G_Parts) false else (g.R_PartsOf_1 r2 (fun r11 => (bif (r3 == [112]) then k0 (⟨r11.f_Base, r11.f_Prefix, r11.f_Suffix, 3, r11.f_Added⟩ : G_Parts) true else (bif (r3 == [109]) then k0 (⟨r11.f_Base, r11.f_Prefix, r11.f_Suffix, 4, r11.f_Added⟩ : G_Parts) true else (bif (r3 == [109, 109]) then k0 (⟨r11.f_Base, r11.f_Prefix, r11.f_Suffix, 5, r11.f_Added⟩ : G_Parts) true else (bif (r3 == [97, 109]) then k0 (⟨r11.f_Base, r11.f_Prefix, r11.f_Suffix, 6, r11.f_Added⟩ : G_Parts) true else (bif ((r3.length : Int) == 1) then (g.strings_Contains [48, 49, 50, 51, 52, 53, 54, 55, 56, 57] r3 (fun r12 => (bif r12 then k0 (⟨r11.f_Base, r11.f_Prefix, r11.f_Suffix, 2, r3⟩ : G_Parts) true else (g.R_begin r3 (fun r13 => (bif r13 then k0 (⟨r11.f_Base, r11.f_Prefix, r11.f_Suffix, 1, r3⟩ : G_Parts) true else k0 (⟨[], [], [], 0, []⟩ : G_Parts) false)))))) else (g.R_begin r3 (fun r14 => (bif r14 then k0 (⟨r11.f_Base, r11.f_Prefix, r11.f_Suffix, 1, r3⟩ : G_Parts) true else k0 (⟨[], [], [], 0, []⟩ : G_Parts) false)))))))))))))))) else (g.R_baseAt r2 (fun r15 => (bif (decide (r15 < 0)) then k0 (⟨[], [], [], 0, []⟩ : G_Parts) false else (g.R_PartsOf_1 r2 (fun r16 => (bif (r3 == [112]) then k0 (⟨r16.f_Base, r16.f_Prefix, r16.f_Suffix, 3, r16.f_Added⟩ : G_Parts) true else (bif (r3 == [109]) then k0 (⟨r16.f_Base, r16.f_Prefix, r16.f_Suffix, 4, r16.f_Added⟩ : G_Parts) true else (bif (r3 == [109, 109]) then k0 (⟨r16.f_Base, r16.f_Prefix, r16.f_Suffix, 5, r16.f_Added⟩ : G_Parts) true else (bif (r3 == [97, 109]) then k0 (⟨r16.f_Base, r16.f_Prefix, r16.f_Suffix, 6, r16.f_Added⟩ : G_Parts) true else (bif ((r3.length : Int) == 1) then (g.strings_Contains [48, 49, 50, 51, 52, 53, 54, 55, 56, 57] r3 (fun r17 => (bif r17 then k0 (⟨r16.f_Base, r16.f_Prefix, r16.f_Suffix, 2, r3⟩ : G_Parts) true else (g.R_begin r3 (fun r18 => (bif r18 then k0 (⟨r16.f_Base, r16.f_Prefix, r16.f_Suffix, 1, r3⟩ : G_Parts) true else k0 (⟨[], [], [], 0, []⟩ : G_Parts) false)))))) else (g.R_begin r3 (fun r19 => (bif r19 then k0 (⟨r16.f_Base, r16.f_Prefix, r16.f_Suffix, 1, r3⟩ : G_Parts) true else k0 (⟨[], [], [], 0, []⟩ : G_Parts) false))))))))))))))))))))
noncomputable def I_R_PartsOf [Fuel] : C_R_PartsOf := ⟨NN, @strings_Cut _, @R_PartsOf_1 _, @R_baseAt _, @R_begin _, @strings_Contains _⟩
noncomputable def R_PartsOf [Fuel] : T_R_PartsOf := @R_PartsOf_ I_R_PartsOf
def SS_R_PartsOf (g : T_R_PartsOf) : Spec A := fun args => match args with | [.d (.str a1)] => fun k => g a1 (fun z0 z1 => k (.tup [.agg [.d (.str z0.f_Base), .d (.str z0.f_Prefix), .d (.str z0.f_Suffix), .d (.int .i64 z0.f_Kind), .d (.str z0.f_Added)], .d (.bool z1)]) [.undef]) | _ => fun _ => none
noncomputable def code_103 : Code := (Tryz.f103.body).getD .skip
noncomputable def E_R_PartsOf (g : C_R_PartsOf) : Env A := mkE [(134, SS_strings_Cut g.strings_Cut), (135, SS_R_PartsOf_1 g.R_PartsOf_1), (136, SS_R_baseAt g.R_baseAt), (137, SS_R_begin g.R_begin), (138, SS_strings_Contains g.strings_Contains)] [(2, [0]), (8, [1]), (9, [2])] [] [] [] [] [] [] [] []
theorem sm_R_PartsOf (g : C_R_PartsOf) : Same (SS_R_PartsOf (@R_PartsOf_ g)) (abody (E_R_PartsOf g) Tryz.f103 code_103 3 [] [.asis, .asis] g.N) := by intro args; unfold SS_R_PartsOf; split; exact .inr fun R k => (by kernel_rfl); exact .inl fun R k => rfl
theorem ok_R_PartsOf [Fuel] : Ok 103 (SS_R_PartsOf (@R_PartsOf _)) := okF_of std (.cons ok_strings_Cut (.cons ok_R_PartsOf_1 (.cons ok_R_baseAt (.cons ok_R_begin (.cons ok_strings_Contains .nil))))) ⟨rfl, rfl, by kernel_rfl, rfl, rfl, rfl⟩ (sm_R_PartsOf I_R_PartsOf) (cuts0 (fun _ => rfl) (by kernel_rfl)) Tryz.func103 (by kernel_rfl) (by kernel_rfl)
abbrev T_Q_Call : Type 1 := List UInt8 → {R : Type} → (Bool → Option R) → Option R
structure C_Q_Call where
  N : Nat
  R_PartsOf : T_R_PartsOf
def Q_Call_ (g : C_Q_Call) (a1 : List UInt8) {R : Type} (k0 : Bool → Option R) : Option R :=
  (g.R_PartsOf a1 (fun r2 r3 => k0 r3))
noncomputable def I_Q_Call [Fuel] : C_Q_Call := ⟨NN, @R_PartsOf _⟩
noncomputable def Q_Call [Fuel] : T_Q_Call := @Q_Call_ I_Q_Call
def SS_Q_Call (g : T_Q_Call) : Spec A := fun args => match args with | [.d (.str a1)] => fun k => g a1 (fun z0 => k (.d (.bool z0)) [.undef]) | _ => fun _ => none
noncomputable def code_57 : Code := (Tryz.f57.body).getD .skip
noncomputable def E_Q_Call (g : C_Q_Call) : Env A := mkE [(103, SS_R_PartsOf g.R_PartsOf)] [(3, [0])] [] [] [] [] [] [] [] []
theorem sm_Q_Call (g : C_Q_Call) : Same (SS_Q_Call (@Q_Call_ g)) (abody (E_Q_Call g) Tryz.f57 code_57 1 [] [.asis] g.N) := by intro args; unfold SS_Q_Call; split; exact .inr fun R k => (by kernel_rfl); exact .inl fun R k => rfl
theorem ok_Q_Call [Fuel] : Ok 57 (SS_Q_Call (@Q_Call _)) := okF_of std (.cons ok_R_PartsOf .nil) ⟨rfl, rfl, by kernel_rfl, rfl, rfl, rfl⟩ (sm_Q_Call I_Q_Call) (cuts0 (fun _ => rfl) (by kernel_rfl)) Tryz.func57 (by kernel_rfl) (by kernel_rfl)
abbrev T_Q_BaseOf : Type 1 := List UInt8 → {R : Type} → (List UInt8 → Option R) → Option R
structure C_Q_BaseOf where
  N : Nat
  R_PartsOf : T_R_PartsOf
def Q_BaseOf_ (g : C_Q_BaseOf) (a1 : List UInt8) {R : Type} (k0 : List UInt8 → Option R) : Option R :=
  (g.R_PartsOf a1 (fun r2 r3 => k0 r2.f_Base))
noncomputable def I_Q_BaseOf [Fuel] : C_Q_BaseOf := ⟨NN, @R_PartsOf _⟩
noncomputable def Q_BaseOf [Fuel] : T_Q_BaseOf := @Q_BaseOf_ I_Q_BaseOf
def SS_Q_BaseOf (g : T_Q_BaseOf) : Spec A := fun args => match args with | [.d (.str a1)] => fun k => g a1 (fun z0 => k (.d (.str z0)) [.undef]) | _ => fun _ => none
noncomputable def code_71 : Code := (Tryz.f71.body).getD .skip
noncomputable def E_Q_BaseOf (g : C_Q_BaseOf) : Env A := mkE [(103, SS_R_PartsOf g.R_PartsOf)] [(3, [0])] [] [] [] [] [] [] [] []
theorem sm_Q_BaseOf (g : C_Q_BaseOf) : Same (SS_Q_BaseOf (@Q_BaseOf_ g)) (abody (E_Q_BaseOf g) Tryz.f71 code_71 1 [] [.asis] g.N) := by intro args; unfold SS_Q_BaseOf; split; exact .inr fun R k => (by kernel_rfl); exact .inl fun R k => rfl
theorem ok_Q_BaseOf [Fuel] : Ok 71 (SS_Q_BaseOf (@Q_BaseOf _)) := okF_of std (.cons ok_R_PartsOf .nil) ⟨rfl, rfl, by kernel_rfl, rfl, rfl, rfl⟩ (sm_Q_BaseOf I_Q_BaseOf) (cuts0 (fun _ => rfl) (by kernel_rfl)) Tryz.func71 (by kernel_rfl) (by kernel_rfl)
abbrev T_Q_MembersFault_1 : Type 1 := G_Club → G_Member → {R : Type} → (Bool → G_Member → Option R) → Option R
def Q_MembersFault_1_ (g : Nat) (a1 : G_Club) (a2 : G_Member) {R : Type} (k0 : Bool → G_Member → Option R) : Option R :=
  k0 (a1.f_Key == a2.f_Club) a2
noncomputable def Q_MembersFault_1 [Fuel] : T_Q_MembersFault_1 := @Q_MembersFault_1_ NN
def SS_Q_MembersFault_1 (g : T_Q_MembersFault_1) : Spec A := fun args => match args with | [.agg [.d (.str a1), .d (.sl 9 a2)], .box [.d (.str a3), .d (.str a4), .d (.int .i64 a5), .d (.str a6)]] => fun k => g ⟨a1, a2⟩ ⟨a3, a4, a5, a6⟩ (fun z0 z1 => k (.d (.bool z0)) [.undef, .box [.d (.str z1.f_Call), .d (.str z1.f_Club), .d (.int .i64 z1.f_Day), .d (.str z1.f_Locator)]]) | _ => fun _ => none
noncomputable def code_73 : Code := (Tryz.f73.body).getD .skip
noncomputable def E_Q_MembersFault_1 (g : Nat) : Env A := mkE [] [(2, [1])] [] [] [] [] [] [] [] [1]
theorem sm_Q_MembersFault_1 (g : Nat) : Same (SS_Q_MembersFault_1 (@Q_MembersFault_1_ g)) (abody (E_Q_MembersFault_1 g) Tryz.f73 code_73 2 [0] [.asis] g) := by intro args; unfold SS_Q_MembersFault_1; split; exact .inr fun R k => (by kernel_rfl); exact .inl fun R k => rfl
theorem ok_Q_MembersFault_1 [Fuel] : Ok 73 (SS_Q_MembersFault_1 (@Q_MembersFault_1 _)) := okF_of std .nil ⟨rfl, rfl, by kernel_rfl, rfl, rfl, rfl⟩ (sm_Q_MembersFault_1 NN) (cuts0 (fun _ => rfl) (by kernel_rfl)) Tryz.func73 (by kernel_rfl) (by kernel_rfl)
abbrev T_slices_IndexFunc__Club_Q_MembersFault_1 : Type 1 := List G_Club → G_Member → {R : Type} → (Int → G_Member → Option R) → Option R
structure C_slices_IndexFunc__Club_Q_MembersFault_1 where
  N : Nat
  Q_MembersFault_1 : T_Q_MembersFault_1
def slices_IndexFunc__Club_Q_MembersFault_1_L2 (g : C_slices_IndexFunc__Club_Q_MembersFault_1) : Nat → List G_Club → Int → Int → G_Member → {R : Type} → (Int → G_Member → Option R) → (G_Member → Option R) → Option R
  | 0, _, _, _, _, _, _, _ => none
  | n + 1, v3, v4, v5, v6, _, e0, e1 => (bif (decide (v5 < v4)) then (get_ v3 v5 fun x10 => (g.Q_MembersFault_1 x10 v6 (fun r11 r12 => (bif r11 then e0 v5 r12 else slices_IndexFunc__Club_Q_MembersFault_1_L2 g n v3 v4 (w64 (v5 + 1)) r12 e0 e1)))) else e1 v6)
def slices_IndexFunc__Club_Q_MembersFault_1_ (g : C_slices_IndexFunc__Club_Q_MembersFault_1) (a1 : List G_Club) (a2 : G_Member) {R : Type} (k0 : Int → G_Member → Option R) : Option R :=
  (slices_IndexFunc__Club_Q_MembersFault_1_L2 g g.N a1 (a1.length : Int) 0 a2 (fun e13 e14 => k0 e13 e14) (fun e15 => k0 (-1) e15))
noncomputable def I_slices_IndexFunc__Club_Q_MembersFault_1 [Fuel] : C_slices_IndexFunc__Club_Q_MembersFault_1 := ⟨NN, @Q_MembersFault_1 _⟩
noncomputable def slices_IndexFunc__Club_Q_MembersFault_1 [Fuel] : T_slices_IndexFunc__Club_Q_MembersFault_1 := @slices_IndexFunc__Club_Q_MembersFault_1_ I_slices_IndexFunc__Club_Q_MembersFault_1
def SS_slices_IndexFunc__Club_Q_MembersFault_1 (g : T_slices_IndexFunc__Club_Q_MembersFault_1) : Spec A := fun args => match args with | [.d (.sl 106 a1), .fn 73 [.box [.d (.str a2), .d (.str a3), .d (.int .i64 a4), .d (.str a5)]]] => fun k => g a1 ⟨a2, a3, a4, a5⟩ (fun z0 z1 => k (.d (.int .i64 z0)) [.undef, .fn 73 [.box [.d (.str z1.f_Call), .d (.str z1.f_Club), .d (.int .i64 z1.f_Day), .d (.str z1.f_Locator)]]]) | _ => fun _ => none
def sh_slices_IndexFunc__Club_Q_MembersFault_1_L2 : SSt := mkSh 19 1 [(0, .sl 106), (1, .fn 73 [.ptr 0 0]), (7, .int .i64), (8, .int .i64)] [(0, .box [.str, .str, .int .i64, .str])]
def LP_slices_IndexFunc__Club_Q_MembersFault_1_L2 (g : C_slices_IndexFunc__Club_Q_MembersFault_1) (n : Nat) : LPT A := fun ps => match ps with | [.d (.sl 106 p1), .d (.int .i64 p2), .d (.int .i64 p3), .d (.str p4), .d (.str p5), .d (.int .i64 p6), .d (.str p7)] => fun K => slices_IndexFunc__Club_Q_MembersFault_1_L2 g n p1 p2 p3 ⟨p4, p5, p6, p7⟩ (fun z0 z1 => K .ret (mkSt 19 1 [(1, .fn 73 [.ptr 0 0]), (4, .d (.int .i64 z0))] [(0, some (.box [.d (.str z1.f_Call), .d (.str z1.f_Club), .d (.int .i64 z1.f_Day), .d (.str z1.f_Locator)]))])) (fun z0 => K (.exit 0) (mkSt 19 1 [(1, .fn 73 [.ptr 0 0])] [(0, some (.box [.d (.str z0.f_Call), .d (.str z0.f_Club), .d (.int .i64 z0.f_Day), .d (.str z0.f_Locator)]))])) | _ => fun _ => none
noncomputable def code_116 : Code := (Tryz.f116.body).getD .skip
noncomputable def E_slices_IndexFunc__Club_Q_MembersFault_1 (g : C_slices_IndexFunc__Club_Q_MembersFault_1) : Env A := mkE [(73, SS_Q_MembersFault_1 g.Q_MembersFault_1)] [] [(2, ⟨[0, 1, 7, 8], [], [0], []⟩)] [(2, ⟨[1, 4], [], [0], []⟩)] [(2, pieceOf sh_slices_IndexFunc__Club_Q_MembersFault_1_L2 (LP_slices_IndexFunc__Club_Q_MembersFault_1_L2 g g.N))] [] [] [] [] [1]
theorem ct_slices_IndexFunc__Club_Q_MembersFault_1 [Fuel] : NatTab (E_slices_IndexFunc__Club_Q_MembersFault_1 I_slices_IndexFunc__Club_Q_MembersFault_1).C := ct_of (P := Tryz.prog) (T := T) (.cons ok_Q_MembersFault_1 .nil) (by kernel_rfl)
noncomputable def cb_slices_IndexFunc__Club_Q_MembersFault_1_L2 : Code := sub [1, 0, 1, 0, 0] code_116
theorem s_slices_IndexFunc__Club_Q_MembersFault_1_L2 (g : C_slices_IndexFunc__Club_Q_MembersFault_1) (n : Nat) : StepOk (E_slices_IndexFunc__Club_Q_MembersFault_1 g) g.N cb_slices_IndexFunc__Club_Q_MembersFault_1_L2 sh_slices_IndexFunc__Club_Q_MembersFault_1_L2 (LP_slices_IndexFunc__Club_Q_MembersFault_1_L2 g) n := by intro ps; unfold LP_slices_IndexFunc__Club_Q_MembersFault_1_L2; split; exact .inr fun R K => (by kernel_rfl); exact .inl fun R K => rfl
theorem lf_slices_IndexFunc__Club_Q_MembersFault_1_L2 [Fuel] : LoopFine (E_slices_IndexFunc__Club_Q_MembersFault_1 I_slices_IndexFunc__Club_Q_MembersFault_1) NN cb_slices_IndexFunc__Club_Q_MembersFault_1_L2 := fine_loop sh_slices_IndexFunc__Club_Q_MembersFault_1_L2 (LP_slices_IndexFunc__Club_Q_MembersFault_1_L2 I_slices_IndexFunc__Club_Q_MembersFault_1) (by kernel_rfl) ct_slices_IndexFunc__Club_Q_MembersFault_1 (cuts0 (fun _ => rfl) (by kernel_rfl)) (fun ps R K => by unfold LP_slices_IndexFunc__Club_Q_MembersFault_1_L2; split <;> (try unfold slices_IndexFunc__Club_Q_MembersFault_1_L2) <;> rfl) (s_slices_IndexFunc__Club_Q_MembersFault_1_L2 I_slices_IndexFunc__Club_Q_MembersFault_1)
theorem sm_slices_IndexFunc__Club_Q_MembersFault_1 (g : C_slices_IndexFunc__Club_Q_MembersFault_1) : Same (SS_slices_IndexFunc__Club_Q_MembersFault_1 (@slices_IndexFunc__Club_Q_MembersFault_1_ g)) (abody (E_slices_IndexFunc__Club_Q_MembersFault_1 g) Tryz.f116 code_116 1 [0] [.asis] g.N) := by intro args; unfold SS_slices_IndexFunc__Club_Q_MembersFault_1; split; exact .inr fun R k => (by kernel_rfl); exact .inl fun R k => rfl
theorem ok_slices_IndexFunc__Club_Q_MembersFault_1 [Fuel] : Ok 116 (SS_slices_IndexFunc__Club_Q_MembersFault_1 (@slices_IndexFunc__Club_Q_MembersFault_1 _)) := okF_of std (.cons ok_Q_MembersFault_1 .nil) ⟨rfl, rfl, by kernel_rfl, rfl, rfl, rfl⟩ (sm_slices_IndexFunc__Club_Q_MembersFault_1 I_slices_IndexFunc__Club_Q_MembersFault_1) (cutsL (fun _ => rfl) (.cons lf_slices_IndexFunc__Club_Q_MembersFault_1_L2 .nil) (by kernel_rfl)) Tryz.func116 (by kernel_rfl) (by kernel_rfl)
abbrev T_slices_ContainsFunc__Club_Q_MembersFault_1 : Type 1 := List G_Club → G_Member → {R : Type} → (Bool → G_Member → Option R) → Option R
structure C_slices_ContainsFunc__Club_Q_MembersFault_1 where
  N : Nat
  slices_IndexFunc__Club_Q_MembersFault_1 : T_slices_IndexFunc__Club_Q_MembersFault_1
def slices_ContainsFunc__Club_Q_MembersFault_1_ (g : C_slices_ContainsFunc__Club_Q_MembersFault_1) (a1 : List G_Club) (a2 : G_Member) {R : Type} (k0 : Bool → G_Member → Option R) : Option R :=
  (g.slices_IndexFunc__Club_Q_MembersFault_1 a1 a2 (fun r3 r4 => k0 (decide (r3 ≥ 0)) r4))
noncomputable def I_slices_ContainsFunc__Club_Q_MembersFault_1 [Fuel] : C_slices_ContainsFunc__Club_Q_MembersFault_1 := ⟨NN, @slices_IndexFunc__Club_Q_MembersFault_1 _⟩
noncomputable def slices_ContainsFunc__Club_Q_MembersFault_1 [Fuel] : T_slices_ContainsFunc__Club_Q_MembersFault_1 := @slices_ContainsFunc__Club_Q_MembersFault_1_ I_slices_ContainsFunc__Club_Q_MembersFault_1
def SS_slices_ContainsFunc__Club_Q_MembersFault_1 (g : T_slices_ContainsFunc__Club_Q_MembersFault_1) : Spec A := fun args => match args with | [.d (.sl 106 a1), .fn 73 [.box [.d (.str a2), .d (.str a3), .d (.int .i64 a4), .d (.str a5)]]] => fun k => g a1 ⟨a2, a3, a4, a5⟩ (fun z0 z1 => k (.d (.bool z0)) [.undef, .fn 73 [.box [.d (.str z1.f_Call), .d (.str z1.f_Club), .d (.int .i64 z1.f_Day), .d (.str z1.f_Locator)]]]) | _ => fun _ => none
noncomputable def code_72 : Code := (Tryz.f72.body).getD .skip
noncomputable def E_slices_ContainsFunc__Club_Q_MembersFault_1 (g : C_slices_ContainsFunc__Club_Q_MembersFault_1) : Env A := mkE [(116, SS_slices_IndexFunc__Club_Q_MembersFault_1 g.slices_IndexFunc__Club_Q_MembersFault_1)] [] [] [] [] [] [] [] [(116, 0)] [1]
theorem sm_slices_ContainsFunc__Club_Q_MembersFault_1 (g : C_slices_ContainsFunc__Club_Q_MembersFault_1) : Same (SS_slices_ContainsFunc__Club_Q_MembersFault_1 (@slices_ContainsFunc__Club_Q_MembersFault_1_ g)) (abody (E_slices_ContainsFunc__Club_Q_MembersFault_1 g) Tryz.f72 code_72 1 [0] [.asis] g.N) := by intro args; unfold SS_slices_ContainsFunc__Club_Q_MembersFault_1; split; exact .inr fun R k => (by kernel_rfl); exact .inl fun R k => rfl
theorem ok_slices_ContainsFunc__Club_Q_MembersFault_1 [Fuel] : Ok 72 (SS_slices_ContainsFunc__Club_Q_MembersFault_1 (@slices_ContainsFunc__Club_Q_MembersFault_1 _)) := okF_of std (.cons ok_slices_IndexFunc__Club_Q_MembersFault_1 .nil) ⟨rfl, rfl, by kernel_rfl, rfl, rfl, rfl⟩ (sm_slices_ContainsFunc__Club_Q_MembersFault_1 I_slices_ContainsFunc__Club_Q_MembersFault_1) (cuts0 (fun _ => rfl) (by kernel_rfl)) Tryz.func72 (by kernel_rfl) (by kernel_rfl)
abbrev T_Q_locator : Type 1 := List UInt8 → {R : Type} → (Bool → Option R) → Option R
structure C_Q_locator where
  N : Nat
  Q_Square : T_Q_Square
def Q_locator_ (g : C_Q_locator) (a1 : List UInt8) {R : Type} (k0 : Bool → Option R) : Option R :=
  (bif ((a1.length : Int) == 6) then (g.Q_Square a1 (fun r2 => k0 r2)) else k0 false)
noncomputable def I_Q_locator [Fuel] : C_Q_locator := ⟨NN, @Q_Square _⟩
noncomputable def Q_locator [Fuel] : T_Q_locator := @Q_locator_ I_Q_locator
def SS_Q_locator (g : T_Q_locator) : Spec A := fun args => match args with | [.d (.str a1)] => fun k => g a1 (fun z0 => k (.d (.bool z0)) [.undef]) | _ => fun _ => none
noncomputable def code_74 : Code := (Tryz.f74.body).getD .skip
noncomputable def E_Q_locator (g : C_Q_locator) : Env A := mkE [(81, SS_Q_Square g.Q_Square)] [] [] [] [] [] [] [] [] []
theorem sm_Q_locator (g : C_Q_locator) : Same (SS_Q_locator (@Q_locator_ g)) (abody (E_Q_locator g) Tryz.f74 code_74 0 [] [.asis] g.N) := by intro args; unfold SS_Q_locator; split; exact .inr fun R k => (by kernel_rfl); exact .inl fun R k => rfl
theorem ok_Q_locator [Fuel] : Ok 74 (SS_Q_locator (@Q_locator _)) := okF_of std (.cons ok_Q_Square .nil) ⟨rfl, rfl, by kernel_rfl, rfl, rfl, rfl⟩ (sm_Q_locator I_Q_locator) (cuts0 (fun _ => rfl) (by kernel_rfl)) Tryz.func74 (by kernel_rfl) (by kernel_rfl)
abbrev T_Q_MembersFault : Type 1 := List G_Club → List G_Member → {R : Type} → (Int → Option R) → Option R
structure C_Q_MembersFault where
  N : Nat
  Q_ClubsFault : T_Q_ClubsFault
  Q_in : T_Q_in
  Q_Call : T_Q_Call
  Q_BaseOf : T_Q_BaseOf
  slices_ContainsFunc__Club_Q_MembersFault_1 : T_slices_ContainsFunc__Club_Q_MembersFault_1
  Q_locator : T_Q_locator
def Q_MembersFault_L7 (g : C_Q_MembersFault) : Nat → List G_Club → List G_Member → List G_Member → Int → Int → {R : Type} → (Int → Option R) → Option R → Option R
  | 0, _, _, _, _, _, _, _, _ => none
  | n + 1, v4, v5, v6, v7, v8, _, e0, e1 => (bif (decide (v8 < v7)) then (get_ v6 v8 fun x24 => (g.Q_Call x24.f_Call (fun r25 => (bif (!r25) then e0 3 else (g.Q_BaseOf x24.f_Call (fun r26 => (bif (!(r26 == x24.f_Call)) then e0 3 else (bif (!(x24.f_Club == [])) then (g.slices_ContainsFunc__Club_Q_MembersFault_1 v4 x24 (fun r27 r28 => (bif (!r27) then e0 8 else (g.Q_in r28.f_Day 0 4000 (fun r29 => (bif (!r29) then e0 1 else (g.Q_locator r28.f_Locator (fun r30 => (bif (!r30) then e0 3 else (bif (decide (v8 > 0)) then (get_ v5 (w64 (v8 - 1)) fun x31 => (bif (Op.bytesLess r28.f_Call x31.f_Call) then e0 7 else (get_ v5 (w64 (v8 - 1)) fun x32 => (bif (r28.f_Call == x32.f_Call) then (get_ v5 (w64 (v8 - 1)) fun x33 => (bif (decide (r28.f_Day ≤ x33.f_Day)) then e0 7 else Q_MembersFault_L7 g n v4 v5 v6 v7 (w64 (v8 + 1)) e0 e1)) else Q_MembersFault_L7 g n v4 v5 v6 v7 (w64 (v8 + 1)) e0 e1)))) else Q_MembersFault_L7 g n v4 v5 v6 v7 (w64 (v8 + 1)) e0 e1)))))))))) else (g.Q_in x24.f_Day 0 4000 (fun r34 => (bif (!r34) then e0 1 else (g.Q_locator x24.f_Locator (fun r35 => (bif (!r35) then e0 3 else (bif (decide (v8 > 0)) then (get_ v5 (w64 (v8 - 1)) fun x36 => (bif (Op.bytesLess x24.f_Call x36.f_Call) then e0 7 else (get_ v5 (w64 (v8 - 1)) fun x37 => (bif (x24.f_Call == x37.f_Call) then (get_ v5 (w64 (v8 - 1)) fun x38 => (bif (decide (x24.f_Day ≤ x38.f_Day)) then e0 7 else Q_MembersFault_L7 g n v4 v5 v6 v7 (w64 (v8 + 1)) e0 e1)) else Q_MembersFault_L7 g n v4 v5 v6 v7 (w64 (v8 + 1)) e0 e1)))) else Q_MembersFault_L7 g n v4 v5 v6 v7 (w64 (v8 + 1)) e0 e1))))))))))))))) else e1)
def Q_MembersFault_ (g : C_Q_MembersFault) (a1 : List G_Club) (a2 : List G_Member) {R : Type} (k0 : Int → Option R) : Option R :=
  (g.Q_ClubsFault a1 (fun r3 => (bif (r3 != 0) then k0 r3 else (bif (decide ((a2.length : Int) > 1000)) then k0 2 else (Q_MembersFault_L7 g g.N a1 a2 a2 (a2.length : Int) 0 (fun e39 => k0 e39) (k0 0))))))
noncomputable def I_Q_MembersFault [Fuel] : C_Q_MembersFault := ⟨NN, @Q_ClubsFault _, @Q_in _, @Q_Call _, @Q_BaseOf _, @slices_ContainsFunc__Club_Q_MembersFault_1 _, @Q_locator _⟩
noncomputable def Q_MembersFault [Fuel] : T_Q_MembersFault := @Q_MembersFault_ I_Q_MembersFault
def SS_Q_MembersFault (g : T_Q_MembersFault) : Spec A := fun args => match args with | [.d (.sl 106 a1), .d (.sl 109 a2)] => fun k => g a1 a2 (fun z0 => k (.d (.int .i64 z0)) [.undef, .undef]) | _ => fun _ => none
def sh_Q_MembersFault_L7 : SSt := mkSh 93 1 [(0, .sl 106), (1, .sl 109), (16, .sl 109), (17, .int .i64), (18, .int .i64)] []
def LP_Q_MembersFault_L7 (g : C_Q_MembersFault) (n : Nat) : LPT A := fun ps => match ps with | [.d (.sl 106 p1), .d (.sl 109 p2), .d (.sl 109 p3), .d (.int .i64 p4), .d (.int .i64 p5)] => fun K => Q_MembersFault_L7 g n p1 p2 p3 p4 p5 (fun z0 => K .ret (mkSt 93 1 [(4, .d (.int .i64 z0))] [])) (K (.exit 0) (mkSt 93 1 [] [])) | _ => fun _ => none
noncomputable def code_27 : Code := (Tryz.f27.body).getD .skip
noncomputable def E_Q_MembersFault (g : C_Q_MembersFault) : Env A := mkE [(33, SS_Q_ClubsFault g.Q_ClubsFault), (55, SS_Q_in g.Q_in), (57, SS_Q_Call g.Q_Call), (71, SS_Q_BaseOf g.Q_BaseOf), (72, SS_slices_ContainsFunc__Club_Q_MembersFault_1 g.slices_ContainsFunc__Club_Q_MembersFault_1), (74, SS_Q_locator g.Q_locator)] [(7, [0])] [(7, ⟨[0, 1, 16, 17, 18], [], [], []⟩)] [(7, ⟨[4], [], [], []⟩)] [(7, pieceOf sh_Q_MembersFault_L7 (LP_Q_MembersFault_L7 g g.N))] [] [] [] [] []
theorem ct_Q_MembersFault [Fuel] : NatTab (E_Q_MembersFault I_Q_MembersFault).C := ct_of (P := Tryz.prog) (T := T) (.cons ok_Q_ClubsFault (.cons ok_Q_in (.cons ok_Q_Call (.cons ok_Q_BaseOf (.cons ok_slices_ContainsFunc__Club_Q_MembersFault_1 (.cons ok_Q_locator .nil)))))) (by kernel_rfl)
noncomputable def cb_Q_MembersFault_L7 : Code := sub [1, 1, 1, 0, 1, 0, 0] code_27
theorem s_Q_MembersFault_L7 (g : C_Q_MembersFault) (n : Nat) : StepOk (E_Q_MembersFault g) g.N cb_Q_MembersFault_L7 sh_Q_MembersFault_L7 (LP_Q_MembersFault_L7 g) n := by intro ps; unfold LP_Q_MembersFault_L7; split; exact .inr fun R K => (by kernel_rfl); exact .inl fun R K => rfl
theorem lf_Q_MembersFault_L7 [Fuel] : LoopFine (E_Q_MembersFault I_Q_MembersFault) NN cb_Q_MembersFault_L7 := fine_loop sh_Q_MembersFault_L7 (LP_Q_MembersFault_L7 I_Q_MembersFault) (by kernel_rfl) ct_Q_MembersFault (cuts0 (fun _ => rfl) (by kernel_rfl)) (fun ps R K => by unfold LP_Q_MembersFault_L7; split <;> (try unfold Q_MembersFault_L7) <;> rfl) (s_Q_MembersFault_L7 I_Q_MembersFault)
theorem sm_Q_MembersFault (g : C_Q_MembersFault) : Same (SS_Q_MembersFault (@Q_MembersFault_ g)) (abody (E_Q_MembersFault g) Tryz.f27 code_27 1 [] [.asis] g.N) := by intro args; unfold SS_Q_MembersFault; split; exact .inr fun R k => (by kernel_rfl); exact .inl fun R k => rfl
theorem ok_Q_MembersFault [Fuel] : Ok 27 (SS_Q_MembersFault (@Q_MembersFault _)) := okF_of std (.cons ok_Q_ClubsFault (.cons ok_Q_in (.cons ok_Q_Call (.cons ok_Q_BaseOf (.cons ok_slices_ContainsFunc__Club_Q_MembersFault_1 (.cons ok_Q_locator .nil)))))) ⟨rfl, rfl, by kernel_rfl, rfl, rfl, rfl⟩ (sm_Q_MembersFault I_Q_MembersFault) (cutsL (fun _ => rfl) (.cons lf_Q_MembersFault_L7 .nil) (by kernel_rfl)) Tryz.func27 (by kernel_rfl) (by kernel_rfl)
abbrev T_law_when : Type 1 := Bool → Int → {R : Type} → (Int → Option R) → Option R
def law_when_ (g : Nat) (a1 : Bool) (a2 : Int) {R : Type} (k0 : Int → Option R) : Option R :=
  (bif a1 then k0 a2 else k0 0)
noncomputable def law_when [Fuel] : T_law_when := @law_when_ NN
def SS_law_when (g : T_law_when) : Spec A := fun args => match args with | [.d (.bool a1), .d (.int .i64 a2)] => fun k => g a1 a2 (fun z0 => k (.d (.int .i64 z0)) [.undef, .undef]) | _ => fun _ => none
noncomputable def code_75 : Code := (Tryz.f75.body).getD .skip
noncomputable def E_law_when (g : Nat) : Env A := mkE [] [] [] [] [] [] [] [] [] []
theorem sm_law_when (g : Nat) : Same (SS_law_when (@law_when_ g)) (abody (E_law_when g) Tryz.f75 code_75 0 [] [.asis] g) := by intro args; unfold SS_law_when; split; exact .inr fun R k => (by kernel_rfl); exact .inl fun R k => rfl
theorem ok_law_when [Fuel] : Ok 75 (SS_law_when (@law_when _)) := okF_of std .nil ⟨rfl, rfl, by kernel_rfl, rfl, rfl, rfl⟩ (sm_law_when NN) (cuts0 (fun _ => rfl) (by kernel_rfl)) Tryz.func75 (by kernel_rfl) (by kernel_rfl)
abbrev T_law_formFault : Type 1 := List UInt8 → {R : Type} → (Int → Option R) → Option R
structure C_law_formFault where
  N : Nat
  Q_Call : T_Q_Call
  law_when : T_law_when
def law_formFault_ (g : C_law_formFault) (a1 : List UInt8) {R : Type} (k0 : Int → Option R) : Option R :=
  (g.Q_Call a1 (fun r2 => (g.law_when (!r2) 3 (fun r3 => k0 r3))))
noncomputable def I_law_formFault [Fuel] : C_law_formFault := ⟨NN, @Q_Call _, @law_when _⟩
noncomputable def law_formFault [Fuel] : T_law_formFault := @law_formFault_ I_law_formFault
def SS_law_formFault (g : T_law_formFault) : Spec A := fun args => match args with | [.d (.str a1)] => fun k => g a1 (fun z0 => k (.d (.int .i64 z0)) [.undef]) | _ => fun _ => none
noncomputable def code_28 : Code := (Tryz.f28.body).getD .skip
noncomputable def E_law_formFault (g : C_law_formFault) : Env A := mkE [(57, SS_Q_Call g.Q_Call), (75, SS_law_when g.law_when)] [] [] [] [] [] [] [] [] []
theorem sm_law_formFault (g : C_law_formFault) : Same (SS_law_formFault (@law_formFault_ g)) (abody (E_law_formFault g) Tryz.f28 code_28 0 [] [.asis] g.N) := by intro args; unfold SS_law_formFault; split; exact .inr fun R k => (by kernel_rfl); exact .inl fun R k => rfl
theorem ok_law_formFault [Fuel] : Ok 28 (SS_law_formFault (@law_formFault _)) := okF_of std (.cons ok_Q_Call (.cons ok_law_when .nil)) ⟨rfl, rfl, by kernel_rfl, rfl, rfl, rfl⟩ (sm_law_formFault I_law_formFault) (cuts0 (fun _ => rfl) (by kernel_rfl)) Tryz.func28 (by kernel_rfl) (by kernel_rfl)
abbrev T_law_dayFault : Type 1 := Int → {R : Type} → (Int → Option R) → Option R
structure C_law_dayFault where
  N : Nat
  law_when : T_law_when
def law_dayFault_ (g : C_law_dayFault) (a1 : Int) {R : Type} (k0 : Int → Option R) : Option R :=
  (bif (decide (a1 < 0)) then (g.law_when true 1 (fun r2 => k0 r2)) else (g.law_when (decide (a1 > 4000)) 1 (fun r3 => k0 r3)))
noncomputable def I_law_dayFault [Fuel] : C_law_dayFault := ⟨NN, @law_when _⟩
noncomputable def law_dayFault [Fuel] : T_law_dayFault := @law_dayFault_ I_law_dayFault
def SS_law_dayFault (g : T_law_dayFault) : Spec A := fun args => match args with | [.d (.int .i64 a1)] => fun k => g a1 (fun z0 => k (.d (.int .i64 z0)) [.undef]) | _ => fun _ => none
noncomputable def code_29 : Code := (Tryz.f29.body).getD .skip
noncomputable def E_law_dayFault (g : C_law_dayFault) : Env A := mkE [(75, SS_law_when g.law_when)] [] [] [] [] [] [] [] [] []
theorem sm_law_dayFault (g : C_law_dayFault) : Same (SS_law_dayFault (@law_dayFault_ g)) (abody (E_law_dayFault g) Tryz.f29 code_29 0 [] [.asis] g.N) := by intro args; unfold SS_law_dayFault; split; exact .inr fun R k => (by kernel_rfl); exact .inl fun R k => rfl
theorem ok_law_dayFault [Fuel] : Ok 29 (SS_law_dayFault (@law_dayFault _)) := okF_of std (.cons ok_law_when .nil) ⟨rfl, rfl, by kernel_rfl, rfl, rfl, rfl⟩ (sm_law_dayFault I_law_dayFault) (cuts0 (fun _ => rfl) (by kernel_rfl)) Tryz.func29 (by kernel_rfl) (by kernel_rfl)
abbrev T_law_errs : Type 1 := List Int → {R : Type} → (Int → Option R) → Option R
def law_errs_L2 (g : Nat) : Nat → List Int → Int → Int → {R : Type} → (Int → Option R) → Option R → Option R
  | 0, _, _, _, _, _, _ => none
  | n + 1, v2, v3, v4, _, e0, e1 => (bif (decide (v4 < v3)) then (get_ v2 v4 fun x6 => (bif (x6 != 0) then e0 x6 else law_errs_L2 g n v2 v3 (w64 (v4 + 1)) e0 e1)) else e1)
def law_errs_ (g : Nat) (a1 : List Int) {R : Type} (k0 : Int → Option R) : Option R :=
  (law_errs_L2 g g a1 (a1.length : Int) 0 (fun e7 => k0 e7) (k0 0))
noncomputable def law_errs [Fuel] : T_law_errs := @law_errs_ NN
def SS_law_errs (g : T_law_errs) : Spec A := fun args => match args with | [.d (.sl 36 a1)] => fun k => g a1 (fun z0 => k (.d (.int .i64 z0)) [.undef]) | _ => fun _ => none
def sh_law_errs_L2 : SSt := mkSh 15 0 [(5, .sl 36), (6, .int .i64), (7, .int .i64)] []
def LP_law_errs_L2 (g : Nat) (n : Nat) : LPT A := fun ps => match ps with | [.d (.sl 36 p1), .d (.int .i64 p2), .d (.int .i64 p3)] => fun K => law_errs_L2 g n p1 p2 p3 (fun z0 => K .ret (mkSt 15 0 [(2, .d (.int .i64 z0))] [])) (K (.exit 0) (mkSt 15 0 [] [])) | _ => fun _ => none
noncomputable def code_13 : Code := (Tryz.f13.body).getD .skip
noncomputable def E_law_errs (g : Nat) : Env A := mkE [] [] [(2, ⟨[5, 6, 7], [], [], []⟩)] [(2, ⟨[2], [], [], []⟩)] [(2, pieceOf sh_law_errs_L2 (LP_law_errs_L2 g g))] [] [] [] [] []
theorem ct_law_errs [Fuel] : NatTab (E_law_errs NN).C := ct_of (P := Tryz.prog) (T := T) .nil (by kernel_rfl)
noncomputable def cb_law_errs_L2 : Code := sub [1, 0, 1, 0, 0] code_13
theorem s_law_errs_L2 (g : Nat) (n : Nat) : StepOk (E_law_errs g) g cb_law_errs_L2 sh_law_errs_L2 (LP_law_errs_L2 g) n := by intro ps; unfold LP_law_errs_L2; split; exact .inr fun R K => (by kernel_rfl); exact .inl fun R K => rfl
theorem lf_law_errs_L2 [Fuel] : LoopFine (E_law_errs NN) NN cb_law_errs_L2 := fine_loop sh_law_errs_L2 (LP_law_errs_L2 NN) (by kernel_rfl) ct_law_errs (cuts0 (fun _ => rfl) (by kernel_rfl)) (fun ps R K => by unfold LP_law_errs_L2; split <;> (try unfold law_errs_L2) <;> rfl) (s_law_errs_L2 NN)
theorem sm_law_errs (g : Nat) : Same (SS_law_errs (@law_errs_ g)) (abody (E_law_errs g) Tryz.f13 code_13 0 [] [.asis] g) := by intro args; unfold SS_law_errs; split; exact .inr fun R k => (by kernel_rfl); exact .inl fun R k => rfl
theorem ok_law_errs [Fuel] : Ok 13 (SS_law_errs (@law_errs _)) := okF_of std .nil ⟨rfl, rfl, by kernel_rfl, rfl, rfl, rfl⟩ (sm_law_errs NN) (cutsL (fun _ => rfl) (.cons lf_law_errs_L2 .nil) (by kernel_rfl)) Tryz.func13 (by kernel_rfl) (by kernel_rfl)
end Go.Am
