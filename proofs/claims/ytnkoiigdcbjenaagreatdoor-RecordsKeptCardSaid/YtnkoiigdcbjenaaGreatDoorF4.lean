/- The functions of the program as Lean functions, each shown to be what the code computes, part 4. No condition: lemmas for the claim. -/
import Derived.Test.YtnkoiigdcbjenaaGreatDoorF0
import Derived.Test.YtnkoiigdcbjenaaGreatDoorFSh
import Derived.Test.YtnkoiigdcbjenaaGreatDoorF1
import Derived.Test.YtnkoiigdcbjenaaGreatDoorF3
set_option linter.unusedVariables false
set_option maxRecDepth 100000
namespace Go.Am
open Go Go.Proofs
abbrev T_R_in : Type 1 := Int → Int → Int → {R : Type} → (Bool → Option R) → Option R
def R_in_ (g : Nat) (a1 a2 a3 : Int) {R : Type} (k0 : Bool → Option R) : Option R :=
  (bif (decide (a2 ≤ a1)) then k0 (decide (a1 ≤ a3)) else k0 false)
noncomputable def R_in [Fuel] : T_R_in := @R_in_ NN
def SS_R_in (g : T_R_in) : Spec A := fun args => match args with | [.d (.int .i64 a1), .d (.int .i64 a2), .d (.int .i64 a3)] => fun k => g a1 a2 a3 (fun z0 => k (.d (.bool z0)) [.undef, .undef, .undef]) | _ => fun _ => none
noncomputable def code_184 : Code := (Tryz.f184.body).getD .skip
noncomputable def E_R_in (g : Nat) : Env A := mkE [] [] [] [] [] [] [] [] [] []
theorem sm_R_in (g : Nat) : Same (SS_R_in (@R_in_ g)) (abody (E_R_in g) Tryz.f184 code_184 0 [] [.asis] g) := by intro args; unfold SS_R_in; split; exact .inr fun R k => (by kernel_rfl); exact .inl fun R k => rfl
theorem ok_R_in [Fuel] : Ok 184 (SS_R_in (@R_in _)) := okF_of std .nil ⟨rfl, rfl, by kernel_rfl, rfl, rfl, rfl⟩ (sm_R_in NN) (cuts0 (fun _ => rfl) (by kernel_rfl)) Tryz.func184 (by kernel_rfl) (by kernel_rfl)
abbrev T_strings_ContainsAny : Type 1 := List UInt8 → List UInt8 → {R : Type} → (Bool → Option R) → Option R
def strings_ContainsAny [Fuel] : T_strings_ContainsAny := @X_cany
def SS_strings_ContainsAny (g : T_strings_ContainsAny) : Spec A := SSX_cany g
theorem ok_strings_ContainsAny [Fuel] : Ok 185 (SS_strings_ContainsAny (@strings_ContainsAny _)) := ⟨ssx_cany_sound (cany_sound rfl (fun s cs w h1 h2 h3 h4 => Any.strings_ContainsAny_laid Tryz.lays150 (by kernel_rfl) s cs w h1 h2 h3 h4)), ssx_cany_nat, enters_of (fn := Tryz.f185) Tryz.func185 (by kernel_rfl) (by kernel_rfl)⟩
abbrev T_R_plain : Type 1 := List UInt8 → Int → Int → {R : Type} → (Bool → Option R) → Option R
structure C_R_plain where
  N : Nat
  strings_Trim : T_strings_Trim
  R_in : T_R_in
  strings_ContainsAny : T_strings_ContainsAny
def R_plain_ (g : C_R_plain) (a1 : List UInt8) (a2 a3 : Int) {R : Type} (k0 : Bool → Option R) : Option R :=
  (g.R_in (a1.length : Int) a2 a3 (fun r4 => (bif r4 then (g.strings_Trim a1 [97, 98, 99, 100, 101, 102, 103, 104, 105, 106, 107, 108, 109, 110, 111, 112, 113, 114, 115, 116, 117, 118, 119, 120, 121, 122, 48, 49, 50, 51, 52, 53, 54, 55, 56, 57] (fun r5 => (bif (r5 == []) then (g.strings_ContainsAny a1 [97, 98, 99, 100, 101, 102, 103, 104, 105, 106, 107, 108, 109, 110, 111, 112, 113, 114, 115, 116, 117, 118, 119, 120, 121, 122] (fun r6 => k0 r6)) else k0 false))) else k0 false)))
noncomputable def I_R_plain [Fuel] : C_R_plain := ⟨NN, @strings_Trim _, @R_in _, @strings_ContainsAny _⟩
noncomputable def R_plain [Fuel] : T_R_plain := @R_plain_ I_R_plain
def SS_R_plain (g : T_R_plain) : Spec A := fun args => match args with | [.d (.str a1), .d (.int .i64 a2), .d (.int .i64 a3)] => fun k => g a1 a2 a3 (fun z0 => k (.d (.bool z0)) [.undef, .undef, .undef]) | _ => fun _ => none
noncomputable def code_183 : Code := (Tryz.f183.body).getD .skip
noncomputable def E_R_plain (g : C_R_plain) : Env A := mkE [(120, SS_strings_Trim g.strings_Trim), (184, SS_R_in g.R_in), (185, SS_strings_ContainsAny g.strings_ContainsAny)] [] [] [] [] [] [] [] [] []
theorem sm_R_plain (g : C_R_plain) : Same (SS_R_plain (@R_plain_ g)) (abody (E_R_plain g) Tryz.f183 code_183 0 [] [.asis] g.N) := by intro args; unfold SS_R_plain; split; exact .inr fun R k => (by kernel_rfl); exact .inl fun R k => rfl
theorem ok_R_plain [Fuel] : Ok 183 (SS_R_plain (@R_plain _)) := okF_of std (.cons ok_strings_Trim (.cons ok_R_in (.cons ok_strings_ContainsAny .nil))) ⟨rfl, rfl, by kernel_rfl, rfl, rfl, rfl⟩ (sm_R_plain I_R_plain) (cuts0 (fun _ => rfl) (by kernel_rfl)) Tryz.func183 (by kernel_rfl) (by kernel_rfl)
abbrev T_R_baseAt : Type 1 := List UInt8 → {R : Type} → (Int → Option R) → Option R
structure C_R_baseAt where
  N : Nat
  strings_LastIndexAny : T_strings_LastIndexAny
  R_plain : T_R_plain
  R_in : T_R_in
  strings_ContainsAny : T_strings_ContainsAny
def R_baseAt_ (g : C_R_baseAt) (a1 : List UInt8) {R : Type} (k0 : Int → Option R) : Option R :=
  (g.strings_LastIndexAny a1 [48, 49, 50, 51, 52, 53, 54, 55, 56, 57] (fun r2 => (g.R_plain a1 3 10 (fun r3 => (bif (!r3) then k0 (-1) else (g.R_in r2 1 3 (fun r4 => (bif (!r4) then k0 (-1) else (g.R_in (w64 ((w64 ((a1.length : Int) - 1)) - r2)) 1 4 (fun r5 => (bif (!r5) then k0 (-1) else (bif (decide (0 ≤ r2) && decide (r2 ≤ (a1.length : Int))) then (g.strings_ContainsAny (a1.take (r2 : Int).toNat) [97, 98, 99, 100, 101, 102, 103, 104, 105, 106, 107, 108, 109, 110, 111, 112, 113, 114, 115, 116, 117, 118, 119, 120, 121, 122] (fun r6 => (bif (!r6) then k0 (-1) else k0 r2))) else none))))))))))))
noncomputable def I_R_baseAt [Fuel] : C_R_baseAt := ⟨NN, @strings_LastIndexAny _, @R_plain _, @R_in _, @strings_ContainsAny _⟩
noncomputable def R_baseAt [Fuel] : T_R_baseAt := @R_baseAt_ I_R_baseAt
def SS_R_baseAt (g : T_R_baseAt) : Spec A := fun args => match args with | [.d (.str a1)] => fun k => g a1 (fun z0 => k (.d (.int .i64 z0)) [.undef]) | _ => fun _ => none
noncomputable def code_136 : Code := (Tryz.f136.body).getD .skip
noncomputable def E_R_baseAt (g : C_R_baseAt) : Env A := mkE [(182, SS_strings_LastIndexAny g.strings_LastIndexAny), (183, SS_R_plain g.R_plain), (184, SS_R_in g.R_in), (185, SS_strings_ContainsAny g.strings_ContainsAny)] [] [] [] [] [] [] [] [] []
theorem sm_R_baseAt (g : C_R_baseAt) : Same (SS_R_baseAt (@R_baseAt_ g)) (abody (E_R_baseAt g) Tryz.f136 code_136 0 [] [.asis] g.N) := by intro args; unfold SS_R_baseAt; split; exact .inr fun R k => (by kernel_rfl); exact .inl fun R k => rfl
theorem ok_R_baseAt [Fuel] : Ok 136 (SS_R_baseAt (@R_baseAt _)) := okF_of std (.cons ok_strings_LastIndexAny (.cons ok_R_plain (.cons ok_R_in (.cons ok_strings_ContainsAny .nil)))) ⟨rfl, rfl, by kernel_rfl, rfl, rfl, rfl⟩ (sm_R_baseAt I_R_baseAt) (cuts0 (fun _ => rfl) (by kernel_rfl)) Tryz.func136 (by kernel_rfl) (by kernel_rfl)
abbrev T_R_PartsOf_1 : Type 1 := List UInt8 → {R : Type} → (G_Parts → Option R) → Option R
structure C_R_PartsOf_1 where
  N : Nat
  R_baseAt : T_R_baseAt
def R_PartsOf_1_ (g : C_R_PartsOf_1) (a1 : List UInt8) {R : Type} (k0 : G_Parts → Option R) : Option R :=
  (g.R_baseAt a1 (fun r2 => (bif (decide (0 ≤ (w64 (r2 + 1))) && decide ((w64 (r2 + 1)) ≤ (a1.length : Int))) then (bif (decide (0 ≤ (w64 (r2 + 1))) && decide ((w64 (r2 + 1)) ≤ (a1.length : Int))) then k0 (⟨a1, (a1.take ((w64 (r2 + 1)) : Int).toNat), (a1.drop ((w64 (r2 + 1)) : Int).toNat), 0, []⟩ : G_Parts) else none) else none)))
noncomputable def I_R_PartsOf_1 [Fuel] : C_R_PartsOf_1 := ⟨NN, @R_baseAt _⟩
noncomputable def R_PartsOf_1 [Fuel] : T_R_PartsOf_1 := @R_PartsOf_1_ I_R_PartsOf_1
def SS_R_PartsOf_1 (g : T_R_PartsOf_1) : Spec A := fun args => match args with | [.d (.str a1)] => fun k => g a1 (fun z0 => k (.agg [.d (.str z0.f_Base), .d (.str z0.f_Prefix), .d (.str z0.f_Suffix), .d (.int .i64 z0.f_Kind), .d (.str z0.f_Added)]) [.undef]) | _ => fun _ => none
noncomputable def code_135 : Code := (Tryz.f135.body).getD .skip
noncomputable def E_R_PartsOf_1 (g : C_R_PartsOf_1) : Env A := mkE [(136, SS_R_baseAt g.R_baseAt)] [(2, [0])] [] [] [] [] [] [] [] []
theorem sm_R_PartsOf_1 (g : C_R_PartsOf_1) : Same (SS_R_PartsOf_1 (@R_PartsOf_1_ g)) (abody (E_R_PartsOf_1 g) Tryz.f135 code_135 1 [] [.asis] g.N) := by intro args; unfold SS_R_PartsOf_1; split; exact .inr fun R k => (by kernel_rfl); exact .inl fun R k => rfl
theorem ok_R_PartsOf_1 [Fuel] : Ok 135 (SS_R_PartsOf_1 (@R_PartsOf_1 _)) := okF_of std (.cons ok_R_baseAt .nil) ⟨rfl, rfl, by kernel_rfl, rfl, rfl, rfl⟩ (sm_R_PartsOf_1 I_R_PartsOf_1) (cuts0 (fun _ => rfl) (by kernel_rfl)) Tryz.func135 (by kernel_rfl) (by kernel_rfl)
abbrev T_R_begin : Type 1 := List UInt8 → {R : Type} → (Bool → Option R) → Option R
structure C_R_begin where
  N : Nat
  R_plain : T_R_plain
def R_begin_ (g : C_R_begin) (a1 : List UInt8) {R : Type} (k0 : Bool → Option R) : Option R :=
  (g.R_plain a1 1 4 (fun r2 => k0 r2))
noncomputable def I_R_begin [Fuel] : C_R_begin := ⟨NN, @R_plain _⟩
noncomputable def R_begin [Fuel] : T_R_begin := @R_begin_ I_R_begin
def SS_R_begin (g : T_R_begin) : Spec A := fun args => match args with | [.d (.str a1)] => fun k => g a1 (fun z0 => k (.d (.bool z0)) [.undef]) | _ => fun _ => none
noncomputable def code_137 : Code := (Tryz.f137.body).getD .skip
noncomputable def E_R_begin (g : C_R_begin) : Env A := mkE [(183, SS_R_plain g.R_plain)] [] [] [] [] [] [] [] [] []
theorem sm_R_begin (g : C_R_begin) : Same (SS_R_begin (@R_begin_ g)) (abody (E_R_begin g) Tryz.f137 code_137 0 [] [.asis] g.N) := by intro args; unfold SS_R_begin; split; exact .inr fun R k => (by kernel_rfl); exact .inl fun R k => rfl
theorem ok_R_begin [Fuel] : Ok 137 (SS_R_begin (@R_begin _)) := okF_of std (.cons ok_R_plain .nil) ⟨rfl, rfl, by kernel_rfl, rfl, rfl, rfl⟩ (sm_R_begin I_R_begin) (cuts0 (fun _ => rfl) (by kernel_rfl)) Tryz.func137 (by kernel_rfl) (by kernel_rfl)
abbrev T_strings_Index : Type 1 := List UInt8 → List UInt8 → {R : Type} → (Int → Option R) → Option R
structure C_strings_Index where
  N : Nat
  stringslite_Index : T_stringslite_Index
def strings_Index_ (g : C_strings_Index) (a1 a2 : List UInt8) {R : Type} (k0 : Int → Option R) : Option R :=
  (g.stringslite_Index a1 a2 (fun r3 => k0 r3))
noncomputable def I_strings_Index [Fuel] : C_strings_Index := ⟨NN, @stringslite_Index _⟩
noncomputable def strings_Index [Fuel] : T_strings_Index := @strings_Index_ I_strings_Index
def SS_strings_Index (g : T_strings_Index) : Spec A := fun args => match args with | [.d (.str a1), .d (.str a2)] => fun k => g a1 a2 (fun z0 => k (.d (.int .i64 z0)) [.undef, .undef]) | _ => fun _ => none
noncomputable def code_186 : Code := (Tryz.f186.body).getD .skip
noncomputable def E_strings_Index (g : C_strings_Index) : Env A := mkE [(217, SS_stringslite_Index g.stringslite_Index)] [] [] [] [] [] [] [] [] []
theorem sm_strings_Index (g : C_strings_Index) : Same (SS_strings_Index (@strings_Index_ g)) (abody (E_strings_Index g) Tryz.f186 code_186 0 [] [.asis] g.N) := by intro args; unfold SS_strings_Index; split; exact .inr fun R k => (by kernel_rfl); exact .inl fun R k => rfl
theorem ok_strings_Index [Fuel] : Ok 186 (SS_strings_Index (@strings_Index _)) := okF_of std (.cons ok_stringslite_Index .nil) ⟨rfl, rfl, by kernel_rfl, rfl, rfl, rfl⟩ (sm_strings_Index I_strings_Index) (cuts0 (fun _ => rfl) (by kernel_rfl)) Tryz.func186 (by kernel_rfl) (by kernel_rfl)
abbrev T_strings_Contains : Type 1 := List UInt8 → List UInt8 → {R : Type} → (Bool → Option R) → Option R
structure C_strings_Contains where
  N : Nat
  strings_Index : T_strings_Index
def strings_Contains_ (g : C_strings_Contains) (a1 a2 : List UInt8) {R : Type} (k0 : Bool → Option R) : Option R :=
  (g.strings_Index a1 a2 (fun r3 => k0 (decide (r3 ≥ 0))))
noncomputable def I_strings_Contains [Fuel] : C_strings_Contains := ⟨NN, @strings_Index _⟩
noncomputable def strings_Contains [Fuel] : T_strings_Contains := @strings_Contains_ I_strings_Contains
def SS_strings_Contains (g : T_strings_Contains) : Spec A := fun args => match args with | [.d (.str a1), .d (.str a2)] => fun k => g a1 a2 (fun z0 => k (.d (.bool z0)) [.undef, .undef]) | _ => fun _ => none
noncomputable def code_138 : Code := (Tryz.f138.body).getD .skip
noncomputable def E_strings_Contains (g : C_strings_Contains) : Env A := mkE [(186, SS_strings_Index g.strings_Index)] [] [] [] [] [] [] [] [] []
theorem sm_strings_Contains (g : C_strings_Contains) : Same (SS_strings_Contains (@strings_Contains_ g)) (abody (E_strings_Contains g) Tryz.f138 code_138 0 [] [.asis] g.N) := by intro args; unfold SS_strings_Contains; split; exact .inr fun R k => (by kernel_rfl); exact .inl fun R k => rfl
theorem ok_strings_Contains [Fuel] : Ok 138 (SS_strings_Contains (@strings_Contains _)) := okF_of std (.cons ok_strings_Index .nil) ⟨rfl, rfl, by kernel_rfl, rfl, rfl, rfl⟩ (sm_strings_Contains I_strings_Contains) (cuts0 (fun _ => rfl) (by kernel_rfl)) Tryz.func138 (by kernel_rfl) (by kernel_rfl)
abbrev T_R_PartsOf : Type 1 := List UInt8 → {R : Type} → (G_Parts → Bool → Option R) → Option R
structure C_R_PartsOf where
  N : Nat
  strings_Cut : T_strings_Cut
  R_PartsOf_1 : T_R_PartsOf_1
  R_baseAt : T_R_baseAt
  R_begin : T_R_begin
  strings_Contains : T_strings_Contains
def R_PartsOf_ (g : C_R_PartsOf) (a1 : List UInt8) {R : Type} (k0 : G_Parts → Bool → Option R) : Option R :=
  (g.strings_Cut a1 [47] (fun r2 r3 r4 => (bif (decide ((a1.length : Int) > 14)) then k0 (⟨[], [], [], 0, []⟩ : G_Parts) false else (bif (!r4) then (g.R_baseAt r2 (fun r5 => (bif (decide (r5 < 0)) then k0 (⟨[], [], [], 0, []⟩ : G_Parts) false else (g.R_PartsOf_1 r2 (fun r6 => k0 r6 true))))) else (g.R_baseAt r3 (fun r7 => (bif (decide (r7 ≥ 0)) then (g.R_begin r2 (fun r8 => (bif r8 then (g.R_PartsOf_1 r3 (fun r9 => k0 (⟨r9.f_Base, r9.f_Prefix, r9.f_Suffix, 1, r2⟩ : G_Parts) true)) else (g.R_baseAt r2 (fun r10 => (bif (decide (r10 < 0)) then k0 (⟨[], [], [], 0, []⟩ : G_Parts) false else (g.R_PartsOf_1 r2 (fun r11 => (bif (r3 == [112]) then k0 (⟨r11.f_Base, r11.f_Prefix, r11.f_Suffix, 3, r11.f_Added⟩ : G_Parts) true else (bif (r3 == [109]) then k0 (⟨r11.f_Base, r11.f_Prefix, r11.f_Suffix, 4, r11.f_Added⟩ : G_Parts) true else (bif (r3 == [109, 109]) then k0 (⟨r11.f_Base, r11.f_Prefix, r11.f_Suffix, 5, r11.f_Added⟩ : G_Parts) true else (bif (r3 == [97, 109]) then k0 (⟨r11.f_Base, r11.f_Prefix, r11.f_Suffix, 6, r11.f_Added⟩ : G_Parts) true else (bif ((r3.length : Int) == 1) then (g.strings_Contains [48, 49, 50, 51, 52, 53, 54, 55, 56, 57] r3 (fun r12 => (bif r12 then k0 (⟨r11.f_Base, r11.f_Prefix, r11.f_Suffix, 2, r3⟩ : G_Parts) true else (g.R_begin r3 (fun r13 => (bif r13 then k0 (⟨r11.f_Base, r11.f_Prefix, r11.f_Suffix, 1, r3⟩ : G_Parts) true else k0 (⟨[], [], [], 0, []⟩ : G_Parts) false)))))) else (g.R_begin r3 (fun r14 => (bif r14 then k0 (⟨r11.f_Base, r11.f_Prefix, r11.f_Suffix, 1, r3⟩ : G_Parts) true else k0 (⟨[], [], [], 0, []⟩ : G_Parts) false)))))))))))))))) else (g.R_baseAt r2 (fun r15 => (bif (decide (r15 < 0)) then k0 (⟨[], [], [], 0, []⟩ : G_Parts) false else (g.R_PartsOf_1 r2 (fun r16 => (bif (r3 == [112]) then k0 (⟨r16.f_Base, r16.f_Prefix, r16.f_Suffix, 3, r16.f_Added⟩ : G_Parts) true else (bif (r3 == [109]) then k0 (⟨r16.f_Base, r16.f_Prefix, r16.f_Suffix, 4, r16.f_Added⟩ : G_Parts) true else (bif (r3 == [109, 109]) then k0 (⟨r16.f_Base, r16.f_Prefix, r16.f_Suffix, 5, r16.f_Added⟩ : G_Parts) true else (bif (r3 == [97, 109]) then k0 (⟨r16.f_Base, r16.f_Prefix, r16.f_Suffix, 6, r16.f_Added⟩ : G_Parts) true else (bif ((r3.length : Int) == 1) then (g.strings_Contains [48, 49, 50, 51, 52, 53, 54, 55, 56, 57] r3 (fun r17 => (bif r17 then k0 (⟨r16.f_Base, r16.f_Prefix, r16.f_Suffix, 2, r3⟩ : G_Parts) true else (g.R_begin r3 (fun r18 => (bif r18 then k0 (⟨r16.f_Base, r16.f_Prefix, r16.f_Suffix, 1, r3⟩ : G_Parts) true else k0 (⟨[], [], [], 0, []⟩ : G_Parts) false)))))) else (g.R_begin r3 (fun r19 => (bif r19 then k0 (⟨r16.f_Base, r16.f_Prefix, r16.f_Suffix, 1, r3⟩ : G_Parts) true else k0 (⟨[], [], [], 0, []⟩ : G_Parts) false))))))))))))))))))))
noncomputable def I_R_PartsOf [Fuel] : C_R_PartsOf := ⟨NN, @strings_Cut _, @R_PartsOf_1 _, @R_baseAt _, @R_begin _, @strings_Contains _⟩
noncomputable def R_PartsOf [Fuel] : T_R_PartsOf := @R_PartsOf_ I_R_PartsOf
def SS_R_PartsOf (g : T_R_PartsOf) : Spec A := fun args => match args with | [.d (.str a1)] => fun k => g a1 (fun z0 z1 => k (.tup [.agg [.d (.str z0.f_Base), .d (.str z0.f_Prefix), .d (.str z0.f_Suffix), .d (.int .i64 z0.f_Kind), .d (.str z0.f_Added)], .d (.bool z1)]) [.undef]) | _ => fun _ => none
noncomputable def code_103 : Code := (Tryz.f103.body).getD .skip
noncomputable def E_R_PartsOf (g : C_R_PartsOf) : Env A := mkE [(134, SS_strings_Cut g.strings_Cut), (135, SS_R_PartsOf_1 g.R_PartsOf_1), (136, SS_R_baseAt g.R_baseAt), (137, SS_R_begin g.R_begin), (138, SS_strings_Contains g.strings_Contains)] [(2, [0]), (8, [1]), (9, [2])] [] [] [] [] [] [] [] []
theorem sm_R_PartsOf (g : C_R_PartsOf) : Same (SS_R_PartsOf (@R_PartsOf_ g)) (abody (E_R_PartsOf g) Tryz.f103 code_103 3 [] [.asis, .asis] g.N) := by intro args; unfold SS_R_PartsOf; split; exact .inr fun R k => (by kernel_rfl); exact .inl fun R k => rfl
theorem ok_R_PartsOf [Fuel] : Ok 103 (SS_R_PartsOf (@R_PartsOf _)) := okF_of std (.cons ok_strings_Cut (.cons ok_R_PartsOf_1 (.cons ok_R_baseAt (.cons ok_R_begin (.cons ok_strings_Contains .nil))))) ⟨rfl, rfl, by kernel_rfl, rfl, rfl, rfl⟩ (sm_R_PartsOf I_R_PartsOf) (cuts0 (fun _ => rfl) (by kernel_rfl)) Tryz.func103 (by kernel_rfl) (by kernel_rfl)
abbrev T_Q_Call : Type 1 := List UInt8 → {R : Type} → (Bool → Option R) → Option R
structure C_Q_Call where
  N : Nat
  R_PartsOf : T_R_PartsOf
def Q_Call_ (g : C_Q_Call) (a1 : List UInt8) {R : Type} (k0 : Bool → Option R) : Option R :=
  (g.R_PartsOf a1 (fun r2 r3 => k0 r3))
noncomputable def I_Q_Call [Fuel] : C_Q_Call := ⟨NN, @R_PartsOf _⟩
noncomputable def Q_Call [Fuel] : T_Q_Call := @Q_Call_ I_Q_Call
def SS_Q_Call (g : T_Q_Call) : Spec A := fun args => match args with | [.d (.str a1)] => fun k => g a1 (fun z0 => k (.d (.bool z0)) [.undef]) | _ => fun _ => none
noncomputable def code_57 : Code := (Tryz.f57.body).getD .skip
noncomputable def E_Q_Call (g : C_Q_Call) : Env A := mkE [(103, SS_R_PartsOf g.R_PartsOf)] [(3, [0])] [] [] [] [] [] [] [] []
theorem sm_Q_Call (g : C_Q_Call) : Same (SS_Q_Call (@Q_Call_ g)) (abody (E_Q_Call g) Tryz.f57 code_57 1 [] [.asis] g.N) := by intro args; unfold SS_Q_Call; split; exact .inr fun R k => (by kernel_rfl); exact .inl fun R k => rfl
theorem ok_Q_Call [Fuel] : Ok 57 (SS_Q_Call (@Q_Call _)) := okF_of std (.cons ok_R_PartsOf .nil) ⟨rfl, rfl, by kernel_rfl, rfl, rfl, rfl⟩ (sm_Q_Call I_Q_Call) (cuts0 (fun _ => rfl) (by kernel_rfl)) Tryz.func57 (by kernel_rfl) (by kernel_rfl)
abbrev T_Q_only : Type 1 := List UInt8 → List UInt8 → {R : Type} → (Bool → Option R) → Option R
structure C_Q_only where
  N : Nat
  strings_IndexByte : T_strings_IndexByte
def Q_only_L2 (g : C_Q_only) : Nat → List UInt8 → List UInt8 → Int → Int → {R : Type} → (Bool → Option R) → Option R → Option R
  | 0, _, _, _, _, _, _, _ => none
  | n + 1, v3, v4, v5, v6, _, e0, e1 => (bif (decide (v6 < v5)) then (get_ v3 v6 fun x9 => (g.strings_IndexByte v4 (x9.toNat : Int) (fun r10 => (bif (decide (r10 < 0)) then e0 false else Q_only_L2 g n v3 v4 v5 (w64 (v6 + 1)) e0 e1)))) else e1)
def Q_only_ (g : C_Q_only) (a1 a2 : List UInt8) {R : Type} (k0 : Bool → Option R) : Option R :=
  (Q_only_L2 g g.N a1 a2 (a1.length : Int) 0 (fun e11 => k0 e11) (k0 true))
noncomputable def I_Q_only [Fuel] : C_Q_only := ⟨NN, @strings_IndexByte _⟩
noncomputable def Q_only [Fuel] : T_Q_only := @Q_only_ I_Q_only
def SS_Q_only (g : T_Q_only) : Spec A := fun args => match args with | [.d (.str a1), .d (.str a2)] => fun k => g a1 a2 (fun z0 => k (.d (.bool z0)) [.undef, .undef]) | _ => fun _ => none
def sh_Q_only_L2 : SSt := mkSh 18 0 [(0, .str), (1, .str), (7, .int .i64), (8, .int .i64)] []
def LP_Q_only_L2 (g : C_Q_only) (n : Nat) : LPT A := fun ps => match ps with | [.d (.str p1), .d (.str p2), .d (.int .i64 p3), .d (.int .i64 p4)] => fun K => Q_only_L2 g n p1 p2 p3 p4 (fun z0 => K .ret (mkSt 18 0 [(4, .d (.bool z0))] [])) (K (.exit 0) (mkSt 18 0 [] [])) | _ => fun _ => none
noncomputable def code_102 : Code := (Tryz.f102.body).getD .skip
noncomputable def E_Q_only (g : C_Q_only) : Env A := mkE [(119, SS_strings_IndexByte g.strings_IndexByte)] [] [(2, ⟨[0, 1, 7, 8], [], [], []⟩)] [(2, ⟨[4], [], [], []⟩)] [(2, pieceOf sh_Q_only_L2 (LP_Q_only_L2 g g.N))] [] [] [] [] []
theorem ct_Q_only [Fuel] : NatTab (E_Q_only I_Q_only).C := ct_of (P := Tryz.prog) (T := T) (.cons ok_strings_IndexByte .nil) (by kernel_rfl)
noncomputable def cb_Q_only_L2 : Code := sub [1, 0, 1, 0, 0] code_102
theorem s_Q_only_L2 (g : C_Q_only) (n : Nat) : StepOk (E_Q_only g) g.N cb_Q_only_L2 sh_Q_only_L2 (LP_Q_only_L2 g) n := by intro ps; unfold LP_Q_only_L2; split; exact .inr fun R K => (by kernel_rfl); exact .inl fun R K => rfl
theorem lf_Q_only_L2 [Fuel] : LoopFine (E_Q_only I_Q_only) NN cb_Q_only_L2 := fine_loop sh_Q_only_L2 (LP_Q_only_L2 I_Q_only) (by kernel_rfl) ct_Q_only (cuts0 (fun _ => rfl) (by kernel_rfl)) (fun ps R K => by unfold LP_Q_only_L2; split <;> (try unfold Q_only_L2) <;> rfl) (s_Q_only_L2 I_Q_only)
theorem sm_Q_only (g : C_Q_only) : Same (SS_Q_only (@Q_only_ g)) (abody (E_Q_only g) Tryz.f102 code_102 0 [] [.asis] g.N) := by intro args; unfold SS_Q_only; split; exact .inr fun R k => (by kernel_rfl); exact .inl fun R k => rfl
theorem ok_Q_only [Fuel] : Ok 102 (SS_Q_only (@Q_only _)) := okF_of std (.cons ok_strings_IndexByte .nil) ⟨rfl, rfl, by kernel_rfl, rfl, rfl, rfl⟩ (sm_Q_only I_Q_only) (cutsL (fun _ => rfl) (.cons lf_Q_only_L2 .nil) (by kernel_rfl)) Tryz.func102 (by kernel_rfl) (by kernel_rfl)
abbrev T_Q_Key : Type 1 := List UInt8 → {R : Type} → (Bool → Option R) → Option R
structure C_Q_Key where
  N : Nat
  Q_in : T_Q_in
  Q_only : T_Q_only
def Q_Key_ (g : C_Q_Key) (a1 : List UInt8) {R : Type} (k0 : Bool → Option R) : Option R :=
  (g.Q_in (a1.length : Int) 1 40 (fun r2 => (bif r2 then (bif (decide (0 ≤ 1) && decide (1 ≤ (a1.length : Int))) then (g.Q_only (a1.take (1 : Int).toNat) [97, 98, 99, 100, 101, 102, 103, 104, 105, 106, 107, 108, 109, 110, 111, 112, 113, 114, 115, 116, 117, 118, 119, 120, 121, 122] (fun r3 => (bif r3 then (g.Q_only a1 [97, 98, 99, 100, 101, 102, 103, 104, 105, 106, 107, 108, 109, 110, 111, 112, 113, 114, 115, 116, 117, 118, 119, 120, 121, 122, 48, 49, 50, 51, 52, 53, 54, 55, 56, 57, 45, 95] (fun r4 => k0 r4)) else k0 false))) else none) else k0 false)))
noncomputable def I_Q_Key [Fuel] : C_Q_Key := ⟨NN, @Q_in _, @Q_only _⟩
noncomputable def Q_Key [Fuel] : T_Q_Key := @Q_Key_ I_Q_Key
def SS_Q_Key (g : T_Q_Key) : Spec A := fun args => match args with | [.d (.str a1)] => fun k => g a1 (fun z0 => k (.d (.bool z0)) [.undef]) | _ => fun _ => none
noncomputable def code_54 : Code := (Tryz.f54.body).getD .skip
noncomputable def E_Q_Key (g : C_Q_Key) : Env A := mkE [(55, SS_Q_in g.Q_in), (102, SS_Q_only g.Q_only)] [] [] [] [] [] [] [] [] []
theorem sm_Q_Key (g : C_Q_Key) : Same (SS_Q_Key (@Q_Key_ g)) (abody (E_Q_Key g) Tryz.f54 code_54 0 [] [.asis] g.N) := by intro args; unfold SS_Q_Key; split; exact .inr fun R k => (by kernel_rfl); exact .inl fun R k => rfl
theorem ok_Q_Key [Fuel] : Ok 54 (SS_Q_Key (@Q_Key _)) := okF_of std (.cons ok_Q_in (.cons ok_Q_only .nil)) ⟨rfl, rfl, by kernel_rfl, rfl, rfl, rfl⟩ (sm_Q_Key I_Q_Key) (cuts0 (fun _ => rfl) (by kernel_rfl)) Tryz.func54 (by kernel_rfl) (by kernel_rfl)
abbrev T_Q_TriesFault : Type 1 := List G_Try → {R : Type} → (Int → Option R) → Option R
structure C_Q_TriesFault where
  N : Nat
  Q_Key : T_Q_Key
  Q_in : T_Q_in
  Q_Call : T_Q_Call
  slices_Compare__string : T_slices_Compare__string
def Q_TriesFault_L4 (g : C_Q_TriesFault) : Nat → List G_Try → List G_Try → Int → Int → {R : Type} → (Int → Option R) → Option R → Option R
  | 0, _, _, _, _, _, _, _ => none
  | n + 1, v2, v3, v4, v5, _, e0, e1 => (bif (decide (v5 < v4)) then (get_ v3 v5 fun x13 => (g.Q_in x13.f_Day 0 4000 (fun r14 => (bif (!r14) then e0 1 else (g.Q_Call x13.f_Call (fun r15 => (bif (!r15) then e0 3 else (g.Q_Key x13.f_Category (fun r16 => (bif (!r16) then e0 5 else (g.Q_in x13.f_Points 0 1000000000000 (fun r17 => (bif (!r17) then e0 1 else (bif (decide (v5 > 0)) then (get_ v2 (w64 (v5 - 1)) fun x18 => (bif (decide (x18.f_Day > x13.f_Day)) then e0 7 else (bif (x18.f_Day == x13.f_Day) then (g.slices_Compare__string [x18.f_Category, x18.f_Call] [x13.f_Category, x13.f_Call] (fun r19 => (bif (decide (r19 ≥ 0)) then e0 7 else Q_TriesFault_L4 g n v2 v3 v4 (w64 (v5 + 1)) e0 e1))) else Q_TriesFault_L4 g n v2 v3 v4 (w64 (v5 + 1)) e0 e1))) else Q_TriesFault_L4 g n v2 v3 v4 (w64 (v5 + 1)) e0 e1)))))))))))))) else e1)
def Q_TriesFault_ (g : C_Q_TriesFault) (a1 : List G_Try) {R : Type} (k0 : Int → Option R) : Option R :=
  (bif (decide ((a1.length : Int) > 500)) then k0 2 else (Q_TriesFault_L4 g g.N a1 a1 (a1.length : Int) 0 (fun e20 => k0 e20) (k0 0)))
noncomputable def I_Q_TriesFault [Fuel] : C_Q_TriesFault := ⟨NN, @Q_Key _, @Q_in _, @Q_Call _, @slices_Compare__string _⟩
noncomputable def Q_TriesFault [Fuel] : T_Q_TriesFault := @Q_TriesFault_ I_Q_TriesFault
def SS_Q_TriesFault (g : T_Q_TriesFault) : Spec A := fun args => match args with | [.d (.sl 127 a1)] => fun k => g a1 (fun z0 => k (.d (.int .i64 z0)) [.undef]) | _ => fun _ => none
def sh_Q_TriesFault_L4 : SSt := mkSh 70 4 [(0, .sl 127), (9, .sl 127), (10, .int .i64), (11, .int .i64)] []
def LP_Q_TriesFault_L4 (g : C_Q_TriesFault) (n : Nat) : LPT A := fun ps => match ps with | [.d (.sl 127 p1), .d (.sl 127 p2), .d (.int .i64 p3), .d (.int .i64 p4)] => fun K => Q_TriesFault_L4 g n p1 p2 p3 p4 (fun z0 => K .ret (mkSt 70 4 [(2, .d (.int .i64 z0))] [])) (K (.exit 0) (mkSt 70 4 [] [])) | _ => fun _ => none
noncomputable def code_38 : Code := (Tryz.f38.body).getD .skip
noncomputable def E_Q_TriesFault (g : C_Q_TriesFault) : Env A := mkE [(54, SS_Q_Key g.Q_Key), (55, SS_Q_in g.Q_in), (57, SS_Q_Call g.Q_Call), (86, SS_slices_Compare__string g.slices_Compare__string)] [(4, [0]), (5, [1]), (59, [2]), (64, [3])] [(4, ⟨[0, 9, 10, 11], [], [], []⟩)] [(4, ⟨[2], [], [], []⟩)] [(4, pieceOf sh_Q_TriesFault_L4 (LP_Q_TriesFault_L4 g g.N))] [] [] [] [] []
theorem ct_Q_TriesFault [Fuel] : NatTab (E_Q_TriesFault I_Q_TriesFault).C := ct_of (P := Tryz.prog) (T := T) (.cons ok_Q_Key (.cons ok_Q_in (.cons ok_Q_Call (.cons ok_slices_Compare__string .nil)))) (by kernel_rfl)
noncomputable def cb_Q_TriesFault_L4 : Code := sub [1, 1, 0, 1, 0, 0] code_38
theorem s_Q_TriesFault_L4 (g : C_Q_TriesFault) (n : Nat) : StepOk (E_Q_TriesFault g) g.N cb_Q_TriesFault_L4 sh_Q_TriesFault_L4 (LP_Q_TriesFault_L4 g) n := by intro ps; unfold LP_Q_TriesFault_L4; split; exact .inr fun R K => (by kernel_rfl); exact .inl fun R K => rfl
theorem lf_Q_TriesFault_L4 [Fuel] : LoopFine (E_Q_TriesFault I_Q_TriesFault) NN cb_Q_TriesFault_L4 := fine_loop sh_Q_TriesFault_L4 (LP_Q_TriesFault_L4 I_Q_TriesFault) (by kernel_rfl) ct_Q_TriesFault (cuts0 (fun _ => rfl) (by kernel_rfl)) (fun ps R K => by unfold LP_Q_TriesFault_L4; split <;> (try unfold Q_TriesFault_L4) <;> rfl) (s_Q_TriesFault_L4 I_Q_TriesFault)
theorem sm_Q_TriesFault (g : C_Q_TriesFault) : Same (SS_Q_TriesFault (@Q_TriesFault_ g)) (abody (E_Q_TriesFault g) Tryz.f38 code_38 4 [] [.asis] g.N) := by intro args; unfold SS_Q_TriesFault; split; exact .inr fun R k => (by kernel_rfl); exact .inl fun R k => rfl
theorem ok_Q_TriesFault [Fuel] : Ok 38 (SS_Q_TriesFault (@Q_TriesFault _)) := okF_of std (.cons ok_Q_Key (.cons ok_Q_in (.cons ok_Q_Call (.cons ok_slices_Compare__string .nil)))) ⟨rfl, rfl, by kernel_rfl, rfl, rfl, rfl⟩ (sm_Q_TriesFault I_Q_TriesFault) (cutsL (fun _ => rfl) (.cons lf_Q_TriesFault_L4 .nil) (by kernel_rfl)) Tryz.func38 (by kernel_rfl) (by kernel_rfl)
abbrev T_law_when : Type 1 := Bool → Int → {R : Type} → (Int → Option R) → Option R
def law_when_ (g : Nat) (a1 : Bool) (a2 : Int) {R : Type} (k0 : Int → Option R) : Option R :=
  (bif a1 then k0 a2 else k0 0)
noncomputable def law_when [Fuel] : T_law_when := @law_when_ NN
def SS_law_when (g : T_law_when) : Spec A := fun args => match args with | [.d (.bool a1), .d (.int .i64 a2)] => fun k => g a1 a2 (fun z0 => k (.d (.int .i64 z0)) [.undef, .undef]) | _ => fun _ => none
noncomputable def code_75 : Code := (Tryz.f75.body).getD .skip
noncomputable def E_law_when (g : Nat) : Env A := mkE [] [] [] [] [] [] [] [] [] []
theorem sm_law_when (g : Nat) : Same (SS_law_when (@law_when_ g)) (abody (E_law_when g) Tryz.f75 code_75 0 [] [.asis] g) := by intro args; unfold SS_law_when; split; exact .inr fun R k => (by kernel_rfl); exact .inl fun R k => rfl
theorem ok_law_when [Fuel] : Ok 75 (SS_law_when (@law_when _)) := okF_of std .nil ⟨rfl, rfl, by kernel_rfl, rfl, rfl, rfl⟩ (sm_law_when NN) (cuts0 (fun _ => rfl) (by kernel_rfl)) Tryz.func75 (by kernel_rfl) (by kernel_rfl)
abbrev T_law_dayFault : Type 1 := Int → {R : Type} → (Int → Option R) → Option R
structure C_law_dayFault where
  N : Nat
  law_when : T_law_when
def law_dayFault_ (g : C_law_dayFault) (a1 : Int) {R : Type} (k0 : Int → Option R) : Option R :=
  (bif (decide (a1 < 0)) then (g.law_when true 1 (fun r2 => k0 r2)) else (g.law_when (decide (a1 > 4000)) 1 (fun r3 => k0 r3)))
noncomputable def I_law_dayFault [Fuel] : C_law_dayFault := ⟨NN, @law_when _⟩
noncomputable def law_dayFault [Fuel] : T_law_dayFault := @law_dayFault_ I_law_dayFault
def SS_law_dayFault (g : T_law_dayFault) : Spec A := fun args => match args with | [.d (.int .i64 a1)] => fun k => g a1 (fun z0 => k (.d (.int .i64 z0)) [.undef]) | _ => fun _ => none
noncomputable def code_29 : Code := (Tryz.f29.body).getD .skip
noncomputable def E_law_dayFault (g : C_law_dayFault) : Env A := mkE [(75, SS_law_when g.law_when)] [] [] [] [] [] [] [] [] []
theorem sm_law_dayFault (g : C_law_dayFault) : Same (SS_law_dayFault (@law_dayFault_ g)) (abody (E_law_dayFault g) Tryz.f29 code_29 0 [] [.asis] g.N) := by intro args; unfold SS_law_dayFault; split; exact .inr fun R k => (by kernel_rfl); exact .inl fun R k => rfl
theorem ok_law_dayFault [Fuel] : Ok 29 (SS_law_dayFault (@law_dayFault _)) := okF_of std (.cons ok_law_when .nil) ⟨rfl, rfl, by kernel_rfl, rfl, rfl, rfl⟩ (sm_law_dayFault I_law_dayFault) (cuts0 (fun _ => rfl) (by kernel_rfl)) Tryz.func29 (by kernel_rfl) (by kernel_rfl)
abbrev T_law_errs : Type 1 := List Int → {R : Type} → (Int → Option R) → Option R
def law_errs_L2 (g : Nat) : Nat → List Int → Int → Int → {R : Type} → (Int → Option R) → Option R → Option R
  | 0, _, _, _, _, _, _ => none
  | n + 1, v2, v3, v4, _, e0, e1 => (bif (decide (v4 < v3)) then (get_ v2 v4 fun x6 => (bif (x6 != 0) then e0 x6 else law_errs_L2 g n v2 v3 (w64 (v4 + 1)) e0 e1)) else e1)
def law_errs_ (g : Nat) (a1 : List Int) {R : Type} (k0 : Int → Option R) : Option R :=
  (law_errs_L2 g g a1 (a1.length : Int) 0 (fun e7 => k0 e7) (k0 0))
noncomputable def law_errs [Fuel] : T_law_errs := @law_errs_ NN
def SS_law_errs (g : T_law_errs) : Spec A := fun args => match args with | [.d (.sl 36 a1)] => fun k => g a1 (fun z0 => k (.d (.int .i64 z0)) [.undef]) | _ => fun _ => none
def sh_law_errs_L2 : SSt := mkSh 15 0 [(5, .sl 36), (6, .int .i64), (7, .int .i64)] []
def LP_law_errs_L2 (g : Nat) (n : Nat) : LPT A := fun ps => match ps with | [.d (.sl 36 p1), .d (.int .i64 p2), .d (.int .i64 p3)] => fun K => law_errs_L2 g n p1 p2 p3 (fun z0 => K .ret (mkSt 15 0 [(2, .d (.int .i64 z0))] [])) (K (.exit 0) (mkSt 15 0 [] [])) | _ => fun _ => none
noncomputable def code_13 : Code := (Tryz.f13.body).getD .skip
noncomputable def E_law_errs (g : Nat) : Env A := mkE [] [] [(2, ⟨[5, 6, 7], [], [], []⟩)] [(2, ⟨[2], [], [], []⟩)] [(2, pieceOf sh_law_errs_L2 (LP_law_errs_L2 g g))] [] [] [] [] []
theorem ct_law_errs [Fuel] : NatTab (E_law_errs NN).C := ct_of (P := Tryz.prog) (T := T) .nil (by kernel_rfl)
noncomputable def cb_law_errs_L2 : Code := sub [1, 0, 1, 0, 0] code_13
theorem s_law_errs_L2 (g : Nat) (n : Nat) : StepOk (E_law_errs g) g cb_law_errs_L2 sh_law_errs_L2 (LP_law_errs_L2 g) n := by intro ps; unfold LP_law_errs_L2; split; exact .inr fun R K => (by kernel_rfl); exact .inl fun R K => rfl
theorem lf_law_errs_L2 [Fuel] : LoopFine (E_law_errs NN) NN cb_law_errs_L2 := fine_loop sh_law_errs_L2 (LP_law_errs_L2 NN) (by kernel_rfl) ct_law_errs (cuts0 (fun _ => rfl) (by kernel_rfl)) (fun ps R K => by unfold LP_law_errs_L2; split <;> (try unfold law_errs_L2) <;> rfl) (s_law_errs_L2 NN)
theorem sm_law_errs (g : Nat) : Same (SS_law_errs (@law_errs_ g)) (abody (E_law_errs g) Tryz.f13 code_13 0 [] [.asis] g) := by intro args; unfold SS_law_errs; split; exact .inr fun R k => (by kernel_rfl); exact .inl fun R k => rfl
theorem ok_law_errs [Fuel] : Ok 13 (SS_law_errs (@law_errs _)) := okF_of std .nil ⟨rfl, rfl, by kernel_rfl, rfl, rfl, rfl⟩ (sm_law_errs NN) (cutsL (fun _ => rfl) (.cons lf_law_errs_L2 .nil) (by kernel_rfl)) Tryz.func13 (by kernel_rfl) (by kernel_rfl)
abbrev T_Q_RecordsOf_1 : Type 1 := G_Best → G_Best → {R : Type} → (Int → Option R) → Option R
structure C_Q_RecordsOf_1 where
  N : Nat
  strings_Compare : T_strings_Compare
def Q_RecordsOf_1_ (g : C_Q_RecordsOf_1) (a1 a2 : G_Best) {R : Type} (k0 : Int → Option R) : Option R :=
  (g.strings_Compare a1.f_Category a2.f_Category (fun r3 => k0 r3))
noncomputable def I_Q_RecordsOf_1 [Fuel] : C_Q_RecordsOf_1 := ⟨NN, @strings_Compare _⟩
noncomputable def Q_RecordsOf_1 [Fuel] : T_Q_RecordsOf_1 := @Q_RecordsOf_1_ I_Q_RecordsOf_1
def SS_Q_RecordsOf_1 (g : T_Q_RecordsOf_1) : Spec A := fun args => match args with | [.agg [.d (.str a1), .d (.str a2), .d (.int .i64 a3), .d (.int .i64 a4)], .agg [.d (.str a5), .d (.str a6), .d (.int .i64 a7), .d (.int .i64 a8)]] => fun k => g ⟨a1, a2, a3, a4⟩ ⟨a5, a6, a7, a8⟩ (fun z0 => k (.d (.int .i64 z0)) [.undef, .undef]) | _ => fun _ => none
noncomputable def code_89 : Code := (Tryz.f89.body).getD .skip
noncomputable def E_Q_RecordsOf_1 (g : C_Q_RecordsOf_1) : Env A := mkE [(90, SS_strings_Compare g.strings_Compare)] [(2, [0]), (3, [1])] [] [] [] [] [] [] [] []
theorem sm_Q_RecordsOf_1 (g : C_Q_RecordsOf_1) : Same (SS_Q_RecordsOf_1 (@Q_RecordsOf_1_ g)) (abody (E_Q_RecordsOf_1 g) Tryz.f89 code_89 2 [] [.asis] g.N) := by intro args; unfold SS_Q_RecordsOf_1; split; exact .inr fun R k => (by kernel_rfl); exact .inl fun R k => rfl
theorem ok_Q_RecordsOf_1 [Fuel] : Ok 89 (SS_Q_RecordsOf_1 (@Q_RecordsOf_1 _)) := okF_of std (.cons ok_strings_Compare .nil) ⟨rfl, rfl, by kernel_rfl, rfl, rfl, rfl⟩ (sm_Q_RecordsOf_1 I_Q_RecordsOf_1) (cuts0 (fun _ => rfl) (by kernel_rfl)) Tryz.func89 (by kernel_rfl) (by kernel_rfl)
noncomputable def Ed_Q_RecordsOf_1 (g : C_Q_RecordsOf_1) : Env A := mkED [(90, SS_strings_Compare g.strings_Compare)] [(2, [0]), (3, [1])] [] [] [] [] [] [] [] []
theorem smd_Q_RecordsOf_1 (g : C_Q_RecordsOf_1) : Same (SS_Q_RecordsOf_1 (@Q_RecordsOf_1_ g)) (abody (Ed_Q_RecordsOf_1 g) Tryz.f89 code_89 2 [] [.asis] g.N) := by intro args; unfold SS_Q_RecordsOf_1; split; exact .inr fun R k => (by kernel_rfl); exact .inl fun R k => rfl
theorem okd_Q_RecordsOf_1 [Fuel] : OkD 89 (SS_Q_RecordsOf_1 (@Q_RecordsOf_1 _)) := okF_of stdD (.cons okd_strings_Compare .nil) ⟨rfl, rfl, by kernel_rfl, rfl, rfl, rfl⟩ (smd_Q_RecordsOf_1 I_Q_RecordsOf_1) (cuts0 (fun _ => rfl) (by kernel_rfl)) Tryz.func89 (by kernel_rfl) (by kernel_rfl)
abbrev T_slices_SortFunc__Best_Q_RecordsOf_1 : Type 1 := List G_Best → {R : Type} → (List G_Best → Option R) → Option R
noncomputable def slices_SortFunc__Best_Q_RecordsOf_1 [Fuel] : T_slices_SortFunc__Best_Q_RecordsOf_1 := @X_sortf G_Best (@Q_RecordsOf_1 _)
def SS_slices_SortFunc__Best_Q_RecordsOf_1 (g : T_slices_SortFunc__Best_Q_RecordsOf_1) : Spec A := fun args => match args with | [.arr 78 a1, .fn 89 []] => fun k => g a1 (fun z => k (.tup []) [.arr 78 z, .fn 89 []]) | _ => fun _ => none
theorem h1_slices_SortFunc__Best_Q_RecordsOf_1 [Fuel] (xs : List (A 78)) (R : Type) (k : IV A → List (IV A) → Option R) : SS_slices_SortFunc__Best_Q_RecordsOf_1 (@slices_SortFunc__Best_Q_RecordsOf_1 _) [.arr 78 xs, .fn 89 []] k = X_sortf (α := A 78) (@Q_RecordsOf_1 _) xs (fun z => k (.tup []) [.arr 78 z, .fn 89 []]) := by kernel_rfl
theorem h2_slices_SortFunc__Best_Q_RecordsOf_1 [Fuel] (args : List (IV A)) (R : Type) (k : IV A → List (IV A) → Option R) (h : ∀ xs : List (A 78), args ≠ [.arr 78 xs, .fn 89 []]) : SS_slices_SortFunc__Best_Q_RecordsOf_1 (@slices_SortFunc__Best_Q_RecordsOf_1 _) args k = none := by unfold SS_slices_SortFunc__Best_Q_RecordsOf_1; split; exact absurd rfl (h _); rfl
theorem hc_slices_SortFunc__Best_Q_RecordsOf_1 [Fuel] (x y : A 78) (R : Type) (k : Int → Option R) : callOf T (SS_Q_RecordsOf_1 (@Q_RecordsOf_1 _)) 78 x y k = @Q_RecordsOf_1 _ x y R k := by kernel_rfl
theorem hs_slices_SortFunc__Best_Q_RecordsOf_1 (x : G_Best) : (enc_e78 x).all scal = true := rfl
theorem ok_slices_SortFunc__Best_Q_RecordsOf_1 [Fuel] : Ok 88 (SS_slices_SortFunc__Best_Q_RecordsOf_1 (@slices_SortFunc__Best_Q_RecordsOf_1 _)) := ⟨sortf_sound (tyOk Tryz.prog) (e := 78) Tryz.sortf88 Tryz.isAgg78 Tryz.sizeOf78 (fun x d hd => List.all_eq_true.1 (hs_slices_SortFunc__Best_Q_RecordsOf_1 x) d hd) hc_slices_SortFunc__Best_Q_RecordsOf_1 okd_Q_RecordsOf_1.fs okd_Q_RecordsOf_1.en h1_slices_SortFunc__Best_Q_RecordsOf_1 h2_slices_SortFunc__Best_Q_RecordsOf_1, sortf_na (e := 78) h1_slices_SortFunc__Best_Q_RecordsOf_1 h2_slices_SortFunc__Best_Q_RecordsOf_1, enters_of (fn := Tryz.f88) Tryz.func88 (by kernel_rfl) (by kernel_rfl)⟩
abbrev T_Q_RecordsOf : Type 1 := List G_Try → Int → {R : Type} → (List G_Best → Option R) → Option R
structure C_Q_RecordsOf where
  N : Nat
  slices_SortFunc__Best_Q_RecordsOf_1 : T_slices_SortFunc__Best_Q_RecordsOf_1
def Q_RecordsOf_L3 (g : C_Q_RecordsOf) : Nat → Int → List G_Try → Int → Int → List (List UInt8 × G_Best) → {R : Type} → (List (List UInt8 × G_Best) → Option R) → Option R
  | 0, _, _, _, _, _, _, _ => none
  | n + 1, v3, v4, v5, v6, v7, _, e0 => (bif (decide (v6 < v5)) then (get_ v4 v6 fun x9 => (bif (decide (x9.f_Day ≤ v3)) then (bif (!(mget_string_Best x9.f_Category v7).isSome) then Q_RecordsOf_L3 g n v3 v4 v5 (w64 (v6 + 1)) (mset_string_Best x9.f_Category (⟨x9.f_Category, x9.f_Call, x9.f_Points, x9.f_Day⟩ : G_Best) v7) e0 else (bif (decide (x9.f_Points > ((mget_string_Best x9.f_Category v7).getD (⟨[], [], 0, 0⟩ : G_Best)).f_Points)) then Q_RecordsOf_L3 g n v3 v4 v5 (w64 (v6 + 1)) (mset_string_Best x9.f_Category (⟨x9.f_Category, x9.f_Call, x9.f_Points, x9.f_Day⟩ : G_Best) v7) e0 else Q_RecordsOf_L3 g n v3 v4 v5 (w64 (v6 + 1)) v7 e0)) else Q_RecordsOf_L3 g n v3 v4 v5 (w64 (v6 + 1)) v7 e0)) else e0 v7)
noncomputable def Q_RecordsOf_L11 (g : C_Q_RecordsOf) : Nat → List (List UInt8 × G_Best) → List (List UInt8 × G_Best) → List G_Best → {R : Type} → (List G_Best → Option R) → Option R
  | 0, _, _, _, _, _ => none
  | n + 1, m12, l13, v11, _, e0 => (pickAll l13 (e0 v11) fun x16 l17 => (bif (decide ((v11.length + [x16.2].length) * 48 ≤ roomBytes')) then Q_RecordsOf_L11 g n m12 l17 (v11 ++ [x16.2]) e0 else none))
noncomputable def raw_Q_RecordsOf (g : C_Q_RecordsOf) (a1 : List G_Try) (a2 : Int) {R : Type} (k0 : List G_Best → Option R) : Option R :=
  (Q_RecordsOf_L3 g g.N a2 a1 (a1.length : Int) 0 [] (fun e10 => (Q_RecordsOf_L11 g g.N e10 e10 [] (fun e18 => (g.slices_SortFunc__Best_Q_RecordsOf_1 e18 (fun r19 => k0 r19))))))
def dec0_Q_RecordsOf (p : IV A × List (IV A)) : Option ((List G_Best)) := match p with | (.arr 78 b1, [.undef, .undef]) => some (b1) | _ => none
def inj0_Q_RecordsOf (q : (List G_Best)) : IV A × List (IV A) := (.arr 78 q, [.undef, .undef])
theorem hi0_Q_RecordsOf (p : IV A × List (IV A)) (q : (List G_Best)) (h : dec0_Q_RecordsOf p = some q) : p = inj0_Q_RecordsOf q := by unfold dec0_Q_RecordsOf at h; split at h; (cases h; rfl); cases h
noncomputable def Q_RecordsOf_ (g : C_Q_RecordsOf) (a1 : List G_Try) (a2 : Int) {R : Type} (k0 : List G_Best → Option R) : Option R :=
  (raw_Q_RecordsOf g a1 a2 (fun z0 => some (inj0_Q_RecordsOf (z0)))).bind fun p => (decK dec0_Q_RecordsOf p (fun q => k0 q) none)
noncomputable def I_Q_RecordsOf [Fuel] : C_Q_RecordsOf := ⟨NN, @slices_SortFunc__Best_Q_RecordsOf_1 _⟩
noncomputable def Q_RecordsOf [Fuel] : T_Q_RecordsOf := @Q_RecordsOf_ I_Q_RecordsOf
def SS_Q_RecordsOf (g : T_Q_RecordsOf) : Spec A := fun args => match args with | [.d (.sl 127 a1), .d (.int .i64 a2)] => fun k => g a1 a2 (fun z0 => k (.arr 78 z0) [.undef, .undef]) | _ => fun _ => none
def sh_Q_RecordsOf_L3 : SSt := mkSh 68 7 [(1, .int .i64), (5, .mp 0), (14, .sl 127), (15, .int .i64), (16, .int .i64)] [(0, .mp 9 78)]
def LP_Q_RecordsOf_L3 (g : C_Q_RecordsOf) (n : Nat) : LPT A := fun ps => match ps with | [.d (.int .i64 p1), .d (.sl 127 p2), .d (.int .i64 p3), .d (.int .i64 p4), .mp 9 78 p5] => fun K => Q_RecordsOf_L3 g n p1 p2 p3 p4 p5 (fun z0 => K (.exit 0) (mkSt 68 7 [(5, .mp 0)] [(0, some (.mp 9 78 z0))])) | _ => fun _ => none
def sh_Q_RecordsOf_L11 : SSt := mkSh 68 7 [(10, .own 78 3), (55, .mp 0)] [(0, .gone (2, 0)), (3, .row 78)]
noncomputable def LP_Q_RecordsOf_L11 (g : C_Q_RecordsOf) (n : Nat) (m l : List (A 9 × A 78)) : LPT A := fun ps => match ps with | [.d (.sl 78 p1)] => fun K => Q_RecordsOf_L11 g n m l p1 (fun z0 => K .normal (mkSt 68 7 [(10, .own 78 3)] [(3, some (.row 78 z0))])) | _ => fun _ => none
noncomputable def code_39 : Code := (Tryz.f39.body).getD .skip
noncomputable def E_Q_RecordsOf (g : C_Q_RecordsOf) : Env A := mkE [(88, SS_slices_SortFunc__Best_Q_RecordsOf_1 g.slices_SortFunc__Best_Q_RecordsOf_1)] [(7, [1]), (8, [2]), (12, [4]), (13, [0]), (63, [5]), (64, [6])] [(3, ⟨[1, 5, 14, 15, 16], [], [0], []⟩), (11, ⟨[10, 55], [(10, 78, 3)], [0], []⟩)] [(3, ⟨[5], [], [0], []⟩), (11, ⟨[10], [], [3], []⟩)] [(3, pieceOf sh_Q_RecordsOf_L3 (LP_Q_RecordsOf_L3 g g.N))] [] [] [] [(88, 0)] []
noncomputable def CR_Q_RecordsOf (g : C_Q_RecordsOf) : Nat → Option (PieceR A) := fun i => List.lookup i [(11, pieceR 0 9 78 sh_Q_RecordsOf_L11 (LP_Q_RecordsOf_L11 g g.N))]
theorem ct_Q_RecordsOf [Fuel] : NatTab (E_Q_RecordsOf I_Q_RecordsOf).C := ct_of (P := Tryz.prog) (T := T) (.cons ok_slices_SortFunc__Best_Q_RecordsOf_1 .nil) (by kernel_rfl)
noncomputable def cb_Q_RecordsOf_L3 : Code := sub [1, 1, 0, 1, 0, 0] code_39
theorem s_Q_RecordsOf_L3 (g : C_Q_RecordsOf) (n : Nat) : StepOk (E_Q_RecordsOf g) g.N cb_Q_RecordsOf_L3 sh_Q_RecordsOf_L3 (LP_Q_RecordsOf_L3 g) n := by intro ps; unfold LP_Q_RecordsOf_L3; split; exact .inr fun R K => (by kernel_rfl); exact .inl fun R K => rfl
theorem lf_Q_RecordsOf_L3 [Fuel] : LoopFine (E_Q_RecordsOf I_Q_RecordsOf) NN cb_Q_RecordsOf_L3 := fine_loop sh_Q_RecordsOf_L3 (LP_Q_RecordsOf_L3 I_Q_RecordsOf) (by kernel_rfl) ct_Q_RecordsOf (cuts0 (fun _ => rfl) (by kernel_rfl)) (fun ps R K => by unfold LP_Q_RecordsOf_L3; split <;> (try unfold Q_RecordsOf_L3) <;> rfl) (s_Q_RecordsOf_L3 I_Q_RecordsOf)
noncomputable def rp_Q_RecordsOf_L11 : RangeP := (rangeOf (sub [1, 1, 1, 1, 0, 0] code_39) (sub [1, 1, 1, 1, 0, 1] code_39)).get (by kernel_rfl)
theorem s_Q_RecordsOf_L11 (g : C_Q_RecordsOf) (n : Nat) : RStepOk (E_Q_RecordsOf g) g.N rp_Q_RecordsOf_L11 0 9 78 sh_Q_RecordsOf_L11 (LP_Q_RecordsOf_L11 g) n := by intro m l ps; unfold LP_Q_RecordsOf_L11; split; exact .inr fun R K => (by kernel_rfl); exact .inl fun R K => rfl
theorem lf_Q_RecordsOf_L11 [Fuel] : ROk (E_Q_RecordsOf I_Q_RecordsOf) (CR_Q_RecordsOf I_Q_RecordsOf) NN rp_Q_RecordsOf_L11 := fine_range sh_Q_RecordsOf_L11 (LP_Q_RecordsOf_L11 I_Q_RecordsOf) (by kernel_rfl) (cuts0 (fun _ => rfl) (by kernel_rfl)) (fun m l ps R K => by unfold LP_Q_RecordsOf_L11; split <;> (try unfold Q_RecordsOf_L11) <;> rfl) (s_Q_RecordsOf_L11 I_Q_RecordsOf)
theorem sm_Q_RecordsOf (g : C_Q_RecordsOf) : Same (SS_Q_RecordsOf (@raw_Q_RecordsOf g)) (abodyR (E_Q_RecordsOf g) (CR_Q_RecordsOf g) Tryz.f39 code_39 7 [] [.arr 78] g.N) := by intro args; unfold SS_Q_RecordsOf; split; exact .inr fun R k => (by kernel_rfl); exact .inl fun R k => rfl
theorem wh_Q_RecordsOf (g : C_Q_RecordsOf) : Whole (SS_Q_RecordsOf (@Q_RecordsOf_ g)) (SS_Q_RecordsOf (@raw_Q_RecordsOf g)) := by
  intro args R k res h
  unfold SS_Q_RecordsOf at h
  split at h
  · obtain ⟨p, hp, h⟩ := Option.bind_eq_some_iff.1 h
    exact ⟨p, hp, (decK_hc (inj := inj0_Q_RecordsOf) hi0_Q_RecordsOf (fun h => (by cases h)) h)⟩
  · cases h
theorem nx_Q_RecordsOf (g : C_Q_RecordsOf) : NatSpec (SS_Q_RecordsOf (@Q_RecordsOf_ g)) := by
  intro args R k
  unfold SS_Q_RecordsOf
  split
  · unfold Q_RecordsOf_
    rw [Option.bind_assoc]
    exact congrArg (Option.bind _) (funext fun p => (decK_na (inj := inj0_Q_RecordsOf) rfl))
  · rfl
theorem ok_Q_RecordsOf [Fuel] : Ok 39 (SS_Q_RecordsOf (@Q_RecordsOf _)) := okR_of std (.cons ok_slices_SortFunc__Best_Q_RecordsOf_1 .nil) ⟨rfl, rfl, by kernel_rfl, rfl, rfl, rfl⟩ (sm_Q_RecordsOf I_Q_RecordsOf) (wh_Q_RecordsOf I_Q_RecordsOf) (nx_Q_RecordsOf I_Q_RecordsOf) (cutsR (fun _ => rfl) (.cons lf_Q_RecordsOf_L3 .nil) (.cons lf_Q_RecordsOf_L11 .nil) (by kernel_rfl) (by kernel_rfl)) Tryz.func39 (by kernel_rfl) (by kernel_rfl)
end Go.Am
