/- The functions of the program as Lean functions, each shown to be what the code computes, part 3. No condition: lemmas for the claim. -/
import Derived.Test.YtonhhbcacemaiaaGreatDoorF0
import Derived.Test.YtonhhbcacemaiaaGreatDoorFSh
import Derived.Test.YtonhhbcacemaiaaGreatDoorF1
import Derived.Test.YtonhhbcacemaiaaGreatDoorF2
set_option linter.unusedVariables false
set_option maxRecDepth 100000
namespace Go.Am
open Go Go.Proofs
abbrev T_z90z : Type 1 := List UInt8 → {R : Type} → (G_Parts → Option R) → Option R
structure C_z90z where
 N : Nat
 R_baseAt : T_R_baseAt
def z90z_ (g : C_z90z) (a1 : List UInt8) {R : Type} (k0 : G_Parts → Option R) : Option R :=
 (g.R_baseAt a1 (fun r2 => (bif (decide (0 ≤ (w64 (r2 + 1))) && decide ((w64 (r2 + 1)) ≤ (a1.length : Int))) then (bif (decide (0 ≤ (w64 (r2 + 1))) && decide ((w64 (r2 + 1)) ≤ (a1.length : Int))) then k0 (⟨a1, (a1.take ((w64 (r2 + 1)) : Int).toNat), (a1.drop ((w64 (r2 + 1)) : Int).toNat), 0, []⟩ : G_Parts) else none) else none)))
noncomputable def I_z90z [Fuel] : C_z90z := ⟨NN, @R_baseAt _⟩
noncomputable def z90z [Fuel] : T_z90z := @z90z_ I_z90z
def SS_z90z (g : T_z90z) : Spec A := fun args => match args with | [.d (.str a1)] => fun k => g a1 (fun z0 => k (.agg [.d (.str z0.f_Base), .d (.str z0.f_Prefix), .d (.str z0.f_Suffix), .d (.int .i64 z0.f_Kind), .d (.str z0.f_Added)]) [.undef]) | _ => fun _ => none
noncomputable def code_132 : Code := (Tryz.f132.body).getD .skip
noncomputable def E_z90z (g : C_z90z) : Env A := mkE [(133, SS_R_baseAt g.R_baseAt)] [(2, [0])] [] [] [] [] [] [] [] []
theorem sm_z90z (g : C_z90z) : Same (SS_z90z (@z90z_ g)) (abody (E_z90z g) Tryz.f132 code_132 1 [] [.asis] g.N) := by intro args; unfold SS_z90z; split; exact .inr fun R k => (by kernel_rfl); exact .inl fun R k => rfl
theorem ok_z90z [Fuel] : Ok 132 (SS_z90z (@z90z _)) := okF_of std (.cons ok_R_baseAt .nil) ⟨rfl, rfl, by kernel_rfl, rfl, rfl, rfl⟩ (sm_z90z I_z90z) (cuts0 (fun _ => rfl) (by kernel_rfl)) Tryz.func132 (by kernel_rfl) (by kernel_rfl)
abbrev T_R_begin : Type 1 := List UInt8 → {R : Type} → (Bool → Option R) → Option R
structure C_R_begin where
 N : Nat
 R_plain : T_R_plain
def R_begin_ (g : C_R_begin) (a1 : List UInt8) {R : Type} (k0 : Bool → Option R) : Option R :=
 (g.R_plain a1 1 4 (fun r2 => k0 r2))
noncomputable def I_R_begin [Fuel] : C_R_begin := ⟨NN, @R_plain _⟩
noncomputable def R_begin [Fuel] : T_R_begin := @R_begin_ I_R_begin
def SS_R_begin (g : T_R_begin) : Spec A := fun args => match args with | [.d (.str a1)] => fun k => g a1 (fun z0 => k (.d (.bool z0)) [.undef]) | _ => fun _ => none
noncomputable def code_134 : Code := (Tryz.f134.body).getD .skip
noncomputable def E_R_begin (g : C_R_begin) : Env A := mkE [(195, SS_R_plain g.R_plain)] [] [] [] [] [] [] [] [] []
theorem sm_R_begin (g : C_R_begin) : Same (SS_R_begin (@R_begin_ g)) (abody (E_R_begin g) Tryz.f134 code_134 0 [] [.asis] g.N) := by intro args; unfold SS_R_begin; split; exact .inr fun R k => (by kernel_rfl); exact .inl fun R k => rfl
theorem ok_R_begin [Fuel] : Ok 134 (SS_R_begin (@R_begin _)) := okF_of std (.cons ok_R_plain .nil) ⟨rfl, rfl, by kernel_rfl, rfl, rfl, rfl⟩ (sm_R_begin I_R_begin) (cuts0 (fun _ => rfl) (by kernel_rfl)) Tryz.func134 (by kernel_rfl) (by kernel_rfl)
abbrev T_strings_Index : Type 1 := List UInt8 → List UInt8 → {R : Type} → (Int → Option R) → Option R
structure C_strings_Index where
 N : Nat
 stringslite_Index : T_stringslite_Index
def strings_Index_ (g : C_strings_Index) (a1 a2 : List UInt8) {R : Type} (k0 : Int → Option R) : Option R :=
 (g.stringslite_Index a1 a2 (fun r3 => k0 r3))
noncomputable def I_strings_Index [Fuel] : C_strings_Index := ⟨NN, @stringslite_Index _⟩
noncomputable def strings_Index [Fuel] : T_strings_Index := @strings_Index_ I_strings_Index
def SS_strings_Index (g : T_strings_Index) : Spec A := fun args => match args with | [.d (.str a1), .d (.str a2)] => fun k => g a1 a2 (fun z0 => k (.d (.int .i64 z0)) [.undef, .undef]) | _ => fun _ => none
noncomputable def code_198 : Code := (Tryz.f198.body).getD .skip
noncomputable def E_strings_Index (g : C_strings_Index) : Env A := mkE [(231, SS_stringslite_Index g.stringslite_Index)] [] [] [] [] [] [] [] [] []
theorem sm_strings_Index (g : C_strings_Index) : Same (SS_strings_Index (@strings_Index_ g)) (abody (E_strings_Index g) Tryz.f198 code_198 0 [] [.asis] g.N) := by intro args; unfold SS_strings_Index; split; exact .inr fun R k => (by kernel_rfl); exact .inl fun R k => rfl
theorem ok_strings_Index [Fuel] : Ok 198 (SS_strings_Index (@strings_Index _)) := okF_of std (.cons ok_stringslite_Index .nil) ⟨rfl, rfl, by kernel_rfl, rfl, rfl, rfl⟩ (sm_strings_Index I_strings_Index) (cuts0 (fun _ => rfl) (by kernel_rfl)) Tryz.func198 (by kernel_rfl) (by kernel_rfl)
abbrev T_strings_Contains : Type 1 := List UInt8 → List UInt8 → {R : Type} → (Bool → Option R) → Option R
structure C_strings_Contains where
 N : Nat
 strings_Index : T_strings_Index
def strings_Contains_ (g : C_strings_Contains) (a1 a2 : List UInt8) {R : Type} (k0 : Bool → Option R) : Option R :=
 (g.strings_Index a1 a2 (fun r3 => k0 (decide (r3 ≥ 0))))
noncomputable def I_strings_Contains [Fuel] : C_strings_Contains := ⟨NN, @strings_Index _⟩
noncomputable def strings_Contains [Fuel] : T_strings_Contains := @strings_Contains_ I_strings_Contains
def SS_strings_Contains (g : T_strings_Contains) : Spec A := fun args => match args with | [.d (.str a1), .d (.str a2)] => fun k => g a1 a2 (fun z0 => k (.d (.bool z0)) [.undef, .undef]) | _ => fun _ => none
noncomputable def code_135 : Code := (Tryz.f135.body).getD .skip
noncomputable def E_strings_Contains (g : C_strings_Contains) : Env A := mkE [(198, SS_strings_Index g.strings_Index)] [] [] [] [] [] [] [] [] []
theorem sm_strings_Contains (g : C_strings_Contains) : Same (SS_strings_Contains (@strings_Contains_ g)) (abody (E_strings_Contains g) Tryz.f135 code_135 0 [] [.asis] g.N) := by intro args; unfold SS_strings_Contains; split; exact .inr fun R k => (by kernel_rfl); exact .inl fun R k => rfl
theorem ok_strings_Contains [Fuel] : Ok 135 (SS_strings_Contains (@strings_Contains _)) := okF_of std (.cons ok_strings_Index .nil) ⟨rfl, rfl, by kernel_rfl, rfl, rfl, rfl⟩ (sm_strings_Contains I_strings_Contains) (cuts0 (fun _ => rfl) (by kernel_rfl)) Tryz.func135 (by kernel_rfl) (by kernel_rfl)
abbrev T_R_PartsOf : Type 1 := List UInt8 → {R : Type} → (G_Parts → Bool → Option R) → Option R
structure C_R_PartsOf where
 N : Nat
 z86z : T_z86z
 z90z : T_z90z
 R_baseAt : T_R_baseAt
 R_begin : T_R_begin
 strings_Contains : T_strings_Contains
def R_PartsOf_ (g : C_R_PartsOf) (a1 : List UInt8) {R : Type} (k0 : G_Parts → Bool → Option R) : Option R :=
 (g.z86z a1 [47] (fun r2 r3 r4 => (bif (decide ((a1.length : Int) > 14)) then k0 (⟨[], [], [], 0, []⟩ : G_Parts) false else (bif (!r4) then (g.R_baseAt r2 (fun r5 => (bif (decide (r5 < 0)) then k0 (⟨[], [], [], 0, []⟩ : G_Parts) false else (g.z90z r2 (fun r6 => k0 r6 true))))) else (g.R_baseAt r3 (fun r7 => (bif (decide (r7 ≥ 0)) then (g.R_begin r2 (fun r8 => (bif r8 then (g.z90z r3 (fun r9 => k0 (⟨r9.f_Base, r9.f_Prefix, r9.f_Suffix, 1, r2⟩ : G_Parts) true)) else (g.R_baseAt r2 (fun r10 => (bif (decide (r10 < 0)) then k0 (⟨[], [], [], 0, []⟩ : G_Parts) false else (g.z90z r2 (fun r11 => (bif (r3 == [112]) then k0 (⟨r11.f_Base, r11.f_Prefix, r11.f_Suffix, 3, r11.f_Added⟩ : G_Parts) true else (bif (r3 == [109]) then k0 (⟨r11.f_Base, r11.f_Prefix, r11.f_Suffix, 4, r11.f_Added⟩ : G_Parts) true else (bif (r3 == [109, 109]) then k0 (⟨r11.f_Base, r11.f_Prefix, r11.f_Suffix, 5, r11.f_Added⟩ : G_Parts) true else (bif (r3 == [97, 109]) then k0 (⟨r11.f_Base, r11.f_Prefix, r11.f_Suffix, 6, r11.f_Added⟩ : G_Parts) true else (bif ((r3.length : Int) == 1) then (g.strings_Contains [48, 49, 50, 51, 52, 53, 54, 55, 56, 57] r3 (fun r12 => (bif r12 then k0 (⟨r11.f_Base, r11.f_Prefix, r11.f_Suffix, 2, r3⟩ : G_Parts) true else (g.R_begin r3 (fun r13 => (bif r13 then k0 (⟨r11.f_Base, r11.f_Prefix, r11.f_Suffix, 1, r3⟩ : G_Parts) true else k0 (⟨[], [], [], 0, []⟩ : G_Parts) false)))))) else (g.R_begin r3 (fun r14 => (bif r14 then k0 (⟨r11.f_Base, r11.f_Prefix, r11.f_Suffix, 1, r3⟩ : G_Parts) true else k0 (⟨[], [], [], 0, []⟩ : G_Parts) false)))))))))))))))) else (g.R_baseAt r2 (fun r15 => (bif (decide (r15 < 0)) then k0 (⟨[], [], [], 0, []⟩ : G_Parts) false else (g.z90z r2 (fun r16 => (bif (r3 == [112]) then k0 (⟨r16.f_Base, r16.f_Prefix, r16.f_Suffix, 3, r16.f_Added⟩ : G_Parts) true else (bif (r3 == [109]) then k0 (⟨r16.f_Base, r16.f_Prefix, r16.f_Suffix, 4, r16.f_Added⟩ : G_Parts) true else (bif (r3 == [109, 109]) then k0 (⟨r16.f_Base, r16.f_Prefix, r16.f_Suffix, 5, r16.f_Added⟩ : G_Parts) true else (bif (r3 == [97, 109]) then k0 (⟨r16.f_Base, r16.f_Prefix, r16.f_Suffix, 6, r16.f_Added⟩ : G_Parts) true else (bif ((r3.length : Int) == 1) then (g.strings_Contains [48, 49, 50, 51, 52, 53, 54, 55, 56, 57] r3 (fun r17 => (bif r17 then k0 (⟨r16.f_Base, r16.f_Prefix, r16.f_Suffix, 2, r3⟩ : G_Parts) true else (g.R_begin r3 (fun r18 => (bif r18 then k0 (⟨r16.f_Base, r16.f_Prefix, r16.f_Suffix, 1, r3⟩ : G_Parts) true else k0 (⟨[], [], [], 0, []⟩ : G_Parts) false)))))) else (g.R_begin r3 (fun r19 => (bif r19 then k0 (⟨r16.f_Base, r16.f_Prefix, r16.f_Suffix, 1, r3⟩ : G_Parts) true else k0 (⟨[], [], [], 0, []⟩ : G_Parts) false))))))))))))))))))))
noncomputable def I_R_PartsOf [Fuel] : C_R_PartsOf := ⟨NN, @z86z _, @z90z _, @R_baseAt _, @R_begin _, @strings_Contains _⟩
noncomputable def R_PartsOf [Fuel] : T_R_PartsOf := @R_PartsOf_ I_R_PartsOf
def SS_R_PartsOf (g : T_R_PartsOf) : Spec A := fun args => match args with | [.d (.str a1)] => fun k => g a1 (fun z0 z1 => k (.tup [.agg [.d (.str z0.f_Base), .d (.str z0.f_Prefix), .d (.str z0.f_Suffix), .d (.int .i64 z0.f_Kind), .d (.str z0.f_Added)], .d (.bool z1)]) [.undef]) | _ => fun _ => none
noncomputable def code_79 : Code := (Tryz.f79.body).getD .skip
noncomputable def E_R_PartsOf (g : C_R_PartsOf) : Env A := mkE [(131, SS_z86z g.z86z), (132, SS_z90z g.z90z), (133, SS_R_baseAt g.R_baseAt), (134, SS_R_begin g.R_begin), (135, SS_strings_Contains g.strings_Contains)] [(2, [0]), (8, [1]), (9, [2])] [] [] [] [] [] [] [] []
theorem sm_R_PartsOf (g : C_R_PartsOf) : Same (SS_R_PartsOf (@R_PartsOf_ g)) (abody (E_R_PartsOf g) Tryz.f79 code_79 3 [] [.asis, .asis] g.N) := by intro args; unfold SS_R_PartsOf; split; exact .inr fun R k => (by kernel_rfl); exact .inl fun R k => rfl
theorem ok_R_PartsOf [Fuel] : Ok 79 (SS_R_PartsOf (@R_PartsOf _)) := okF_of std (.cons ok_z86z (.cons ok_z90z (.cons ok_R_baseAt (.cons ok_R_begin (.cons ok_strings_Contains .nil))))) ⟨rfl, rfl, by kernel_rfl, rfl, rfl, rfl⟩ (sm_R_PartsOf I_R_PartsOf) (cuts0 (fun _ => rfl) (by kernel_rfl)) Tryz.func79 (by kernel_rfl) (by kernel_rfl)
abbrev T_Q_Call : Type 1 := List UInt8 → {R : Type} → (Bool → Option R) → Option R
structure C_Q_Call where
 N : Nat
 R_PartsOf : T_R_PartsOf
def Q_Call_ (g : C_Q_Call) (a1 : List UInt8) {R : Type} (k0 : Bool → Option R) : Option R :=
 (g.R_PartsOf a1 (fun r2 r3 => k0 r3))
noncomputable def I_Q_Call [Fuel] : C_Q_Call := ⟨NN, @R_PartsOf _⟩
noncomputable def Q_Call [Fuel] : T_Q_Call := @Q_Call_ I_Q_Call
def SS_Q_Call (g : T_Q_Call) : Spec A := fun args => match args with | [.d (.str a1)] => fun k => g a1 (fun z0 => k (.d (.bool z0)) [.undef]) | _ => fun _ => none
noncomputable def code_86 : Code := (Tryz.f86.body).getD .skip
noncomputable def E_Q_Call (g : C_Q_Call) : Env A := mkE [(79, SS_R_PartsOf g.R_PartsOf)] [(3, [0])] [] [] [] [] [] [] [] []
theorem sm_Q_Call (g : C_Q_Call) : Same (SS_Q_Call (@Q_Call_ g)) (abody (E_Q_Call g) Tryz.f86 code_86 1 [] [.asis] g.N) := by intro args; unfold SS_Q_Call; split; exact .inr fun R k => (by kernel_rfl); exact .inl fun R k => rfl
theorem ok_Q_Call [Fuel] : Ok 86 (SS_Q_Call (@Q_Call _)) := okF_of std (.cons ok_R_PartsOf .nil) ⟨rfl, rfl, by kernel_rfl, rfl, rfl, rfl⟩ (sm_Q_Call I_Q_Call) (cuts0 (fun _ => rfl) (by kernel_rfl)) Tryz.func86 (by kernel_rfl) (by kernel_rfl)
abbrev T_Q_BaseOf : Type 1 := List UInt8 → {R : Type} → (List UInt8 → Option R) → Option R
structure C_Q_BaseOf where
 N : Nat
 R_PartsOf : T_R_PartsOf
def Q_BaseOf_ (g : C_Q_BaseOf) (a1 : List UInt8) {R : Type} (k0 : List UInt8 → Option R) : Option R :=
 (g.R_PartsOf a1 (fun r2 r3 => k0 r2.f_Base))
noncomputable def I_Q_BaseOf [Fuel] : C_Q_BaseOf := ⟨NN, @R_PartsOf _⟩
noncomputable def Q_BaseOf [Fuel] : T_Q_BaseOf := @Q_BaseOf_ I_Q_BaseOf
def SS_Q_BaseOf (g : T_Q_BaseOf) : Spec A := fun args => match args with | [.d (.str a1)] => fun k => g a1 (fun z0 => k (.d (.str z0)) [.undef]) | _ => fun _ => none
noncomputable def code_22 : Code := (Tryz.f22.body).getD .skip
noncomputable def E_Q_BaseOf (g : C_Q_BaseOf) : Env A := mkE [(79, SS_R_PartsOf g.R_PartsOf)] [(3, [0])] [] [] [] [] [] [] [] []
theorem sm_Q_BaseOf (g : C_Q_BaseOf) : Same (SS_Q_BaseOf (@Q_BaseOf_ g)) (abody (E_Q_BaseOf g) Tryz.f22 code_22 1 [] [.asis] g.N) := by intro args; unfold SS_Q_BaseOf; split; exact .inr fun R k => (by kernel_rfl); exact .inl fun R k => rfl
theorem ok_Q_BaseOf [Fuel] : Ok 22 (SS_Q_BaseOf (@Q_BaseOf _)) := okF_of std (.cons ok_R_PartsOf .nil) ⟨rfl, rfl, by kernel_rfl, rfl, rfl, rfl⟩ (sm_Q_BaseOf I_Q_BaseOf) (cuts0 (fun _ => rfl) (by kernel_rfl)) Tryz.func22 (by kernel_rfl) (by kernel_rfl)
abbrev T_z14z : Type 1 := G_Club → G_Member → {R : Type} → (Bool → G_Member → Option R) → Option R
def z14z_ (g : Nat) (a1 : G_Club) (a2 : G_Member) {R : Type} (k0 : Bool → G_Member → Option R) : Option R :=
 k0 (a1.f_Key == a2.f_Club) a2
noncomputable def z14z [Fuel] : T_z14z := @z14z_ NN
def SS_z14z (g : T_z14z) : Spec A := fun args => match args with | [.agg [.d (.str a1), .d (.sl 9 a2)], .box [.d (.str a3), .d (.str a4), .d (.int .i64 a5), .d (.str a6)]] => fun k => g ⟨a1, a2⟩ ⟨a3, a4, a5, a6⟩ (fun z0 z1 => k (.d (.bool z0)) [.undef, .box [.d (.str z1.f_Call), .d (.str z1.f_Club), .d (.int .i64 z1.f_Day), .d (.str z1.f_Locator)]]) | _ => fun _ => none
noncomputable def code_88 : Code := (Tryz.f88.body).getD .skip
noncomputable def E_z14z (g : Nat) : Env A := mkE [] [(2, [1])] [] [] [] [] [] [] [] [1]
theorem sm_z14z (g : Nat) : Same (SS_z14z (@z14z_ g)) (abody (E_z14z g) Tryz.f88 code_88 2 [0] [.asis] g) := by intro args; unfold SS_z14z; split; exact .inr fun R k => (by kernel_rfl); exact .inl fun R k => rfl
theorem ok_z14z [Fuel] : Ok 88 (SS_z14z (@z14z _)) := okF_of std .nil ⟨rfl, rfl, by kernel_rfl, rfl, rfl, rfl⟩ (sm_z14z NN) (cuts0 (fun _ => rfl) (by kernel_rfl)) Tryz.func88 (by kernel_rfl) (by kernel_rfl)
abbrev T_z8z : Type 1 := List G_Club → G_Member → {R : Type} → (Int → G_Member → Option R) → Option R
structure C_z8z where
 N : Nat
 z14z : T_z14z
def z8z_L2 (g : C_z8z) : Nat → List G_Club → Int → Int → G_Member → {R : Type} → (Int → G_Member → Option R) → (G_Member → Option R) → Option R
 | 0, _, _, _, _, _, _, _ => none
 | n + 1, v3, v4, v5, v6, _, e0, e1 => (bif (decide (v5 < v4)) then (get_ v3 v5 fun x10 => (g.z14z x10 v6 (fun r11 r12 => (bif r11 then e0 v5 r12 else z8z_L2 g n v3 v4 (w64 (v5 + 1)) r12 e0 e1)))) else e1 v6)
def z8z_ (g : C_z8z) (a1 : List G_Club) (a2 : G_Member) {R : Type} (k0 : Int → G_Member → Option R) : Option R :=
 (z8z_L2 g g.N a1 (a1.length : Int) 0 a2 (fun e13 e14 => k0 e13 e14) (fun e15 => k0 (-1) e15))
noncomputable def I_z8z [Fuel] : C_z8z := ⟨NN, @z14z _⟩
noncomputable def z8z [Fuel] : T_z8z := @z8z_ I_z8z
def SS_z8z (g : T_z8z) : Spec A := fun args => match args with | [.d (.sl 81 a1), .fn 88 [.box [.d (.str a2), .d (.str a3), .d (.int .i64 a4), .d (.str a5)]]] => fun k => g a1 ⟨a2, a3, a4, a5⟩ (fun z0 z1 => k (.d (.int .i64 z0)) [.undef, .fn 88 [.box [.d (.str z1.f_Call), .d (.str z1.f_Club), .d (.int .i64 z1.f_Day), .d (.str z1.f_Locator)]]]) | _ => fun _ => none
def sh_z8z_L2 : SSt := mkSh 19 1 [(0, .sl 81), (1, .fn 88 [.ptr 0 0]), (7, .int .i64), (8, .int .i64)] [(0, .box [.str, .str, .int .i64, .str])]
def LP_z8z_L2 (g : C_z8z) (n : Nat) : LPT A := fun ps => match ps with | [.d (.sl 81 p1), .d (.int .i64 p2), .d (.int .i64 p3), .d (.str p4), .d (.str p5), .d (.int .i64 p6), .d (.str p7)] => fun K => z8z_L2 g n p1 p2 p3 ⟨p4, p5, p6, p7⟩ (fun z0 z1 => K .ret (mkSt 19 1 [(1, .fn 88 [.ptr 0 0]), (4, .d (.int .i64 z0))] [(0, some (.box [.d (.str z1.f_Call), .d (.str z1.f_Club), .d (.int .i64 z1.f_Day), .d (.str z1.f_Locator)]))])) (fun z0 => K (.exit 0) (mkSt 19 1 [(1, .fn 88 [.ptr 0 0])] [(0, some (.box [.d (.str z0.f_Call), .d (.str z0.f_Club), .d (.int .i64 z0.f_Day), .d (.str z0.f_Locator)]))])) | _ => fun _ => none
noncomputable def code_34 : Code := (Tryz.f34.body).getD .skip
noncomputable def E_z8z (g : C_z8z) : Env A := mkE [(88, SS_z14z g.z14z)] [] [(2, ⟨[0, 1, 7, 8], [], [0], [], [], []⟩)] [(2, ⟨[1, 4], [], [0], [], [], []⟩)] [(2, pieceOf sh_z8z_L2 (LP_z8z_L2 g g.N))] [] [] [] [] [1]
theorem ct_z8z [Fuel] : NatTab (E_z8z I_z8z).C := ct_of (P := Tryz.prog) (T := T) (.cons ok_z14z .nil) (by kernel_rfl)
noncomputable def cb_z8z_L2 : Code := sub [1, 0, 1, 0, 0] code_34
theorem s_z8z_L2 (g : C_z8z) (n : Nat) : StepOk (E_z8z g) g.N cb_z8z_L2 sh_z8z_L2 (LP_z8z_L2 g) n := by intro ps; unfold LP_z8z_L2; split; exact .inr fun R K => (by kernel_rfl); exact .inl fun R K => rfl
theorem lf_z8z_L2 [Fuel] : LoopFine (E_z8z I_z8z) NN cb_z8z_L2 := fine_loop sh_z8z_L2 (LP_z8z_L2 I_z8z) (by kernel_rfl) ct_z8z (cuts0 (fun _ => rfl) (by kernel_rfl)) (fun ps R K => by unfold LP_z8z_L2; split <;> (try unfold z8z_L2) <;> rfl) (s_z8z_L2 I_z8z)
theorem sm_z8z (g : C_z8z) : Same (SS_z8z (@z8z_ g)) (abody (E_z8z g) Tryz.f34 code_34 1 [0] [.asis] g.N) := by intro args; unfold SS_z8z; split; exact .inr fun R k => (by kernel_rfl); exact .inl fun R k => rfl
theorem ok_z8z [Fuel] : Ok 34 (SS_z8z (@z8z _)) := okF_of std (.cons ok_z14z .nil) ⟨rfl, rfl, by kernel_rfl, rfl, rfl, rfl⟩ (sm_z8z I_z8z) (cutsL (fun _ => rfl) (.cons lf_z8z_L2 .nil) (by kernel_rfl)) Tryz.func34 (by kernel_rfl) (by kernel_rfl)
abbrev T_z30z : Type 1 := List G_Club → G_Member → {R : Type} → (Bool → G_Member → Option R) → Option R
structure C_z30z where
 N : Nat
 z8z : T_z8z
def z30z_ (g : C_z30z) (a1 : List G_Club) (a2 : G_Member) {R : Type} (k0 : Bool → G_Member → Option R) : Option R :=
 (g.z8z a1 a2 (fun r3 r4 => k0 (decide (r3 ≥ 0)) r4))
noncomputable def I_z30z [Fuel] : C_z30z := ⟨NN, @z8z _⟩
noncomputable def z30z [Fuel] : T_z30z := @z30z_ I_z30z
def SS_z30z (g : T_z30z) : Spec A := fun args => match args with | [.d (.sl 81 a1), .fn 88 [.box [.d (.str a2), .d (.str a3), .d (.int .i64 a4), .d (.str a5)]]] => fun k => g a1 ⟨a2, a3, a4, a5⟩ (fun z0 z1 => k (.d (.bool z0)) [.undef, .fn 88 [.box [.d (.str z1.f_Call), .d (.str z1.f_Club), .d (.int .i64 z1.f_Day), .d (.str z1.f_Locator)]]]) | _ => fun _ => none
noncomputable def code_87 : Code := (Tryz.f87.body).getD .skip
noncomputable def E_z30z (g : C_z30z) : Env A := mkE [(34, SS_z8z g.z8z)] [] [] [] [] [] [] [] [(34, 0)] [1]
theorem sm_z30z (g : C_z30z) : Same (SS_z30z (@z30z_ g)) (abody (E_z30z g) Tryz.f87 code_87 1 [0] [.asis] g.N) := by intro args; unfold SS_z30z; split; exact .inr fun R k => (by kernel_rfl); exact .inl fun R k => rfl
theorem ok_z30z [Fuel] : Ok 87 (SS_z30z (@z30z _)) := okF_of std (.cons ok_z8z .nil) ⟨rfl, rfl, by kernel_rfl, rfl, rfl, rfl⟩ (sm_z30z I_z30z) (cuts0 (fun _ => rfl) (by kernel_rfl)) Tryz.func87 (by kernel_rfl) (by kernel_rfl)
abbrev T_Q_locator : Type 1 := List UInt8 → {R : Type} → (Bool → Option R) → Option R
structure C_Q_locator where
 N : Nat
 Q_Square : T_Q_Square
def Q_locator_ (g : C_Q_locator) (a1 : List UInt8) {R : Type} (k0 : Bool → Option R) : Option R :=
 (bif ((a1.length : Int) == 6) then (g.Q_Square a1 (fun r2 => k0 r2)) else k0 false)
noncomputable def I_Q_locator [Fuel] : C_Q_locator := ⟨NN, @Q_Square _⟩
noncomputable def Q_locator [Fuel] : T_Q_locator := @Q_locator_ I_Q_locator
def SS_Q_locator (g : T_Q_locator) : Spec A := fun args => match args with | [.d (.str a1)] => fun k => g a1 (fun z0 => k (.d (.bool z0)) [.undef]) | _ => fun _ => none
noncomputable def code_89 : Code := (Tryz.f89.body).getD .skip
noncomputable def E_Q_locator (g : C_Q_locator) : Env A := mkE [(139, SS_Q_Square g.Q_Square)] [] [] [] [] [] [] [] [] []
theorem sm_Q_locator (g : C_Q_locator) : Same (SS_Q_locator (@Q_locator_ g)) (abody (E_Q_locator g) Tryz.f89 code_89 0 [] [.asis] g.N) := by intro args; unfold SS_Q_locator; split; exact .inr fun R k => (by kernel_rfl); exact .inl fun R k => rfl
theorem ok_Q_locator [Fuel] : Ok 89 (SS_Q_locator (@Q_locator _)) := okF_of std (.cons ok_Q_Square .nil) ⟨rfl, rfl, by kernel_rfl, rfl, rfl, rfl⟩ (sm_Q_locator I_Q_locator) (cuts0 (fun _ => rfl) (by kernel_rfl)) Tryz.func89 (by kernel_rfl) (by kernel_rfl)
abbrev T_z6z : Type 1 := List G_Club → List G_Member → {R : Type} → (Int → Option R) → Option R
structure C_z6z where
 N : Nat
 Q_BaseOf : T_Q_BaseOf
 Q_in : T_Q_in
 z29z : T_z29z
 Q_Call : T_Q_Call
 z30z : T_z30z
 Q_locator : T_Q_locator
def z6z_L7 (g : C_z6z) : Nat → List G_Club → List G_Member → List G_Member → Int → Int → {R : Type} → (Int → Option R) → Option R → Option R
 | 0, _, _, _, _, _, _, _, _ => none
 | n + 1, v4, v5, v6, v7, v8, _, e0, e1 => (bif (decide (v8 < v7)) then (get_ v6 v8 fun x24 => (g.Q_Call x24.f_Call (fun r25 => (bif (!r25) then e0 3 else (g.Q_BaseOf x24.f_Call (fun r26 => (bif (!(r26 == x24.f_Call)) then e0 3 else (bif (!(x24.f_Club == [])) then (g.z30z v4 x24 (fun r27 r28 => (bif (!r27) then e0 8 else (g.Q_in r28.f_Day 0 4000 (fun r29 => (bif (!r29) then e0 1 else (g.Q_locator r28.f_Locator (fun r30 => (bif (!r30) then e0 3 else (bif (decide (v8 > 0)) then (get_ v5 (w64 (v8 - 1)) fun x31 => (bif (Op.bytesLess r28.f_Call x31.f_Call) then e0 7 else (get_ v5 (w64 (v8 - 1)) fun x32 => (bif (r28.f_Call == x32.f_Call) then (get_ v5 (w64 (v8 - 1)) fun x33 => (bif (decide (r28.f_Day ≤ x33.f_Day)) then e0 7 else z6z_L7 g n v4 v5 v6 v7 (w64 (v8 + 1)) e0 e1)) else z6z_L7 g n v4 v5 v6 v7 (w64 (v8 + 1)) e0 e1)))) else z6z_L7 g n v4 v5 v6 v7 (w64 (v8 + 1)) e0 e1)))))))))) else (g.Q_in x24.f_Day 0 4000 (fun r34 => (bif (!r34) then e0 1 else (g.Q_locator x24.f_Locator (fun r35 => (bif (!r35) then e0 3 else (bif (decide (v8 > 0)) then (get_ v5 (w64 (v8 - 1)) fun x36 => (bif (Op.bytesLess x24.f_Call x36.f_Call) then e0 7 else (get_ v5 (w64 (v8 - 1)) fun x37 => (bif (x24.f_Call == x37.f_Call) then (get_ v5 (w64 (v8 - 1)) fun x38 => (bif (decide (x24.f_Day ≤ x38.f_Day)) then e0 7 else z6z_L7 g n v4 v5 v6 v7 (w64 (v8 + 1)) e0 e1)) else z6z_L7 g n v4 v5 v6 v7 (w64 (v8 + 1)) e0 e1)))) else z6z_L7 g n v4 v5 v6 v7 (w64 (v8 + 1)) e0 e1))))))))))))))) else e1)
def z6z_ (g : C_z6z) (a1 : List G_Club) (a2 : List G_Member) {R : Type} (k0 : Int → Option R) : Option R :=
 (g.z29z a1 (fun r3 => (bif (r3 != 0) then k0 r3 else (bif (decide ((a2.length : Int) > 1000)) then k0 2 else (z6z_L7 g g.N a1 a2 a2 (a2.length : Int) 0 (fun e39 => k0 e39) (k0 0))))))
noncomputable def I_z6z [Fuel] : C_z6z := ⟨NN, @Q_BaseOf _, @Q_in _, @z29z _, @Q_Call _, @z30z _, @Q_locator _⟩
noncomputable def z6z [Fuel] : T_z6z := @z6z_ I_z6z
def SS_z6z (g : T_z6z) : Spec A := fun args => match args with | [.d (.sl 81 a1), .d (.sl 85 a2)] => fun k => g a1 a2 (fun z0 => k (.d (.int .i64 z0)) [.undef, .undef]) | _ => fun _ => none
def sh_z6z_L7 : SSt := mkSh 93 1 [(0, .sl 81), (1, .sl 85), (16, .sl 85), (17, .int .i64), (18, .int .i64)] []
def LP_z6z_L7 (g : C_z6z) (n : Nat) : LPT A := fun ps => match ps with | [.d (.sl 81 p1), .d (.sl 85 p2), .d (.sl 85 p3), .d (.int .i64 p4), .d (.int .i64 p5)] => fun K => z6z_L7 g n p1 p2 p3 p4 p5 (fun z0 => K .ret (mkSt 93 1 [(4, .d (.int .i64 z0))] [])) (K (.exit 0) (mkSt 93 1 [] [])) | _ => fun _ => none
noncomputable def code_29 : Code := (Tryz.f29.body).getD .skip
noncomputable def E_z6z (g : C_z6z) : Env A := mkE [(22, SS_Q_BaseOf g.Q_BaseOf), (54, SS_Q_in g.Q_in), (85, SS_z29z g.z29z), (86, SS_Q_Call g.Q_Call), (87, SS_z30z g.z30z), (89, SS_Q_locator g.Q_locator)] [(7, [0])] [(7, ⟨[0, 1, 16, 17, 18], [], [], [], [], []⟩)] [(7, ⟨[4], [], [], [], [], []⟩)] [(7, pieceOf sh_z6z_L7 (LP_z6z_L7 g g.N))] [] [] [] [] []
theorem ct_z6z [Fuel] : NatTab (E_z6z I_z6z).C := ct_of (P := Tryz.prog) (T := T) (.cons ok_Q_BaseOf (.cons ok_Q_in (.cons ok_z29z (.cons ok_Q_Call (.cons ok_z30z (.cons ok_Q_locator .nil)))))) (by kernel_rfl)
noncomputable def cb_z6z_L7 : Code := sub [1, 1, 1, 0, 1, 0, 0] code_29
theorem s_z6z_L7 (g : C_z6z) (n : Nat) : StepOk (E_z6z g) g.N cb_z6z_L7 sh_z6z_L7 (LP_z6z_L7 g) n := by intro ps; unfold LP_z6z_L7; split; exact .inr fun R K => (by kernel_rfl); exact .inl fun R K => rfl
theorem lf_z6z_L7 [Fuel] : LoopFine (E_z6z I_z6z) NN cb_z6z_L7 := fine_loop sh_z6z_L7 (LP_z6z_L7 I_z6z) (by kernel_rfl) ct_z6z (cuts0 (fun _ => rfl) (by kernel_rfl)) (fun ps R K => by unfold LP_z6z_L7; split <;> (try unfold z6z_L7) <;> rfl) (s_z6z_L7 I_z6z)
theorem sm_z6z (g : C_z6z) : Same (SS_z6z (@z6z_ g)) (abody (E_z6z g) Tryz.f29 code_29 1 [] [.asis] g.N) := by intro args; unfold SS_z6z; split; exact .inr fun R k => (by kernel_rfl); exact .inl fun R k => rfl
theorem ok_z6z [Fuel] : Ok 29 (SS_z6z (@z6z _)) := okF_of std (.cons ok_Q_BaseOf (.cons ok_Q_in (.cons ok_z29z (.cons ok_Q_Call (.cons ok_z30z (.cons ok_Q_locator .nil)))))) ⟨rfl, rfl, by kernel_rfl, rfl, rfl, rfl⟩ (sm_z6z I_z6z) (cutsL (fun _ => rfl) (.cons lf_z6z_L7 .nil) (by kernel_rfl)) Tryz.func29 (by kernel_rfl) (by kernel_rfl)
abbrev T_z52z : Type 1 := Int → Int → Int → {R : Type} → (Bool → Option R) → Option R
def z52z_ (g : Nat) (a1 a2 a3 : Int) {R : Type} (k0 : Bool → Option R) : Option R :=
 (bif (decide (a1 < a2)) then k0 true else k0 (decide (a1 > a3)))
noncomputable def z52z [Fuel] : T_z52z := @z52z_ NN
def SS_z52z (g : T_z52z) : Spec A := fun args => match args with | [.d (.int .i64 a1), .d (.int .i64 a2), .d (.int .i64 a3)] => fun k => g a1 a2 a3 (fun z0 => k (.d (.bool z0)) [.undef, .undef, .undef]) | _ => fun _ => none
noncomputable def code_60 : Code := (Tryz.f60.body).getD .skip
noncomputable def E_z52z (g : Nat) : Env A := mkE [] [] [] [] [] [] [] [] [] []
theorem sm_z52z (g : Nat) : Same (SS_z52z (@z52z_ g)) (abody (E_z52z g) Tryz.f60 code_60 0 [] [.asis] g) := by intro args; unfold SS_z52z; split; exact .inr fun R k => (by kernel_rfl); exact .inl fun R k => rfl
theorem ok_z52z [Fuel] : Ok 60 (SS_z52z (@z52z _)) := okF_of std .nil ⟨rfl, rfl, by kernel_rfl, rfl, rfl, rfl⟩ (sm_z52z NN) (cuts0 (fun _ => rfl) (by kernel_rfl)) Tryz.func60 (by kernel_rfl) (by kernel_rfl)
abbrev T_z65z : Type 1 := Int → {R : Type} → (Bool → Option R) → Option R
structure C_z65z where
 N : Nat
 z52z : T_z52z
def z65z_ (g : C_z65z) (a1 : Int) {R : Type} (k0 : Bool → Option R) : Option R :=
 (g.z52z a1 0 345686399999 (fun r2 => k0 (!r2)))
noncomputable def I_z65z [Fuel] : C_z65z := ⟨NN, @z52z _⟩
noncomputable def z65z [Fuel] : T_z65z := @z65z_ I_z65z
def SS_z65z (g : T_z65z) : Spec A := fun args => match args with | [.d (.int .i64 a1)] => fun k => g a1 (fun z0 => k (.d (.bool z0)) [.undef]) | _ => fun _ => none
noncomputable def code_51 : Code := (Tryz.f51.body).getD .skip
noncomputable def E_z65z (g : C_z65z) : Env A := mkE [(60, SS_z52z g.z52z)] [] [] [] [] [] [] [] [] []
theorem sm_z65z (g : C_z65z) : Same (SS_z65z (@z65z_ g)) (abody (E_z65z g) Tryz.f51 code_51 0 [] [.asis] g.N) := by intro args; unfold SS_z65z; split; exact .inr fun R k => (by kernel_rfl); exact .inl fun R k => rfl
theorem ok_z65z [Fuel] : Ok 51 (SS_z65z (@z65z _)) := okF_of std (.cons ok_z52z .nil) ⟨rfl, rfl, by kernel_rfl, rfl, rfl, rfl⟩ (sm_z65z I_z65z) (cuts0 (fun _ => rfl) (by kernel_rfl)) Tryz.func51 (by kernel_rfl) (by kernel_rfl)
abbrev T_kit_IsMode : Type 1 := Int → {R : Type} → (Bool → Option R) → Option R
structure C_kit_IsMode where
 N : Nat
 z52z : T_z52z
def kit_IsMode_ (g : C_kit_IsMode) (a1 : Int) {R : Type} (k0 : Bool → Option R) : Option R :=
 (g.z52z a1 1 3 (fun r2 => k0 (!r2)))
noncomputable def I_kit_IsMode [Fuel] : C_kit_IsMode := ⟨NN, @z52z _⟩
noncomputable def kit_IsMode [Fuel] : T_kit_IsMode := @kit_IsMode_ I_kit_IsMode
def SS_kit_IsMode (g : T_kit_IsMode) : Spec A := fun args => match args with | [.d (.int .i64 a1)] => fun k => g a1 (fun z0 => k (.d (.bool z0)) [.undef]) | _ => fun _ => none
noncomputable def code_50 : Code := (Tryz.f50.body).getD .skip
noncomputable def E_kit_IsMode (g : C_kit_IsMode) : Env A := mkE [(60, SS_z52z g.z52z)] [] [] [] [] [] [] [] [] []
theorem sm_kit_IsMode (g : C_kit_IsMode) : Same (SS_kit_IsMode (@kit_IsMode_ g)) (abody (E_kit_IsMode g) Tryz.f50 code_50 0 [] [.asis] g.N) := by intro args; unfold SS_kit_IsMode; split; exact .inr fun R k => (by kernel_rfl); exact .inl fun R k => rfl
theorem ok_kit_IsMode [Fuel] : Ok 50 (SS_kit_IsMode (@kit_IsMode _)) := okF_of std (.cons ok_z52z .nil) ⟨rfl, rfl, by kernel_rfl, rfl, rfl, rfl⟩ (sm_kit_IsMode I_kit_IsMode) (cuts0 (fun _ => rfl) (by kernel_rfl)) Tryz.func50 (by kernel_rfl) (by kernel_rfl)
abbrev T_kit_IsKey : Type 1 := List UInt8 → {R : Type} → (Bool → Option R) → Option R
structure C_kit_IsKey where
 N : Nat
 strings_IndexByte : T_strings_IndexByte
 strings_Trim : T_strings_Trim
def kit_IsKey_ (g : C_kit_IsKey) (a1 : List UInt8) {R : Type} (k0 : Bool → Option R) : Option R :=
 (bif (!(a1 == [])) then (bif (decide ((a1.length : Int) ≤ 40)) then (at_ a1 0 fun x2 => (g.strings_IndexByte [97, 98, 99, 100, 101, 102, 103, 104, 105, 106, 107, 108, 109, 110, 111, 112, 113, 114, 115, 116, 117, 118, 119, 120, 121, 122] (x2.toNat : Int) (fun r3 => (bif (decide (r3 ≥ 0)) then (g.strings_Trim a1 [97, 98, 99, 100, 101, 102, 103, 104, 105, 106, 107, 108, 109, 110, 111, 112, 113, 114, 115, 116, 117, 118, 119, 120, 121, 122, 48, 49, 50, 51, 52, 53, 54, 55, 56, 57, 45, 95] (fun r4 => k0 (r4 == []))) else k0 false)))) else k0 false) else k0 false)
noncomputable def I_kit_IsKey [Fuel] : C_kit_IsKey := ⟨NN, @strings_IndexByte _, @strings_Trim _⟩
noncomputable def kit_IsKey [Fuel] : T_kit_IsKey := @kit_IsKey_ I_kit_IsKey
def SS_kit_IsKey (g : T_kit_IsKey) : Spec A := fun args => match args with | [.d (.str a1)] => fun k => g a1 (fun z0 => k (.d (.bool z0)) [.undef]) | _ => fun _ => none
noncomputable def code_49 : Code := (Tryz.f49.body).getD .skip
noncomputable def E_kit_IsKey (g : C_kit_IsKey) : Env A := mkE [(109, SS_strings_IndexByte g.strings_IndexByte), (110, SS_strings_Trim g.strings_Trim)] [] [] [] [] [] [] [] [] []
theorem sm_kit_IsKey (g : C_kit_IsKey) : Same (SS_kit_IsKey (@kit_IsKey_ g)) (abody (E_kit_IsKey g) Tryz.f49 code_49 0 [] [.asis] g.N) := by intro args; unfold SS_kit_IsKey; split; exact .inr fun R k => (by kernel_rfl); exact .inl fun R k => rfl
theorem ok_kit_IsKey [Fuel] : Ok 49 (SS_kit_IsKey (@kit_IsKey _)) := okF_of std (.cons ok_strings_IndexByte (.cons ok_strings_Trim .nil)) ⟨rfl, rfl, by kernel_rfl, rfl, rfl, rfl⟩ (sm_kit_IsKey I_kit_IsKey) (cuts0 (fun _ => rfl) (by kernel_rfl)) Tryz.func49 (by kernel_rfl) (by kernel_rfl)
abbrev T_z95z : Type 1 := Int → {R : Type} → (Bool → Option R) → Option R
def z95z_ (g : Nat) (a1 : Int) {R : Type} (k0 : Bool → Option R) : Option R :=
 (bif (decide (a1 ≥ 97)) then k0 (decide (a1 ≤ 122)) else k0 false)
noncomputable def z95z [Fuel] : T_z95z := @z95z_ NN
def SS_z95z (g : T_z95z) : Spec A := fun args => match args with | [.d (.int .u8 a1)] => fun k => g a1 (fun z0 => k (.d (.bool z0)) [.undef]) | _ => fun _ => none
noncomputable def code_288 : Code := (Tryz.f288.body).getD .skip
noncomputable def E_z95z (g : Nat) : Env A := mkE [] [] [] [] [] [] [] [] [] []
theorem sm_z95z (g : Nat) : Same (SS_z95z (@z95z_ g)) (abody (E_z95z g) Tryz.f288 code_288 0 [] [.asis] g) := by intro args; unfold SS_z95z; split; exact .inr fun R k => (by kernel_rfl); exact .inl fun R k => rfl
theorem ok_z95z [Fuel] : Ok 288 (SS_z95z (@z95z _)) := okF_of std .nil ⟨rfl, rfl, by kernel_rfl, rfl, rfl, rfl⟩ (sm_z95z NN) (cuts0 (fun _ => rfl) (by kernel_rfl)) Tryz.func288 (by kernel_rfl) (by kernel_rfl)
abbrev T_z92z : Type 1 := Int → {R : Type} → (Bool → Option R) → Option R
def z92z_ (g : Nat) (a1 : Int) {R : Type} (k0 : Bool → Option R) : Option R :=
 (bif (decide (a1 ≥ 48)) then k0 (decide (a1 ≤ 57)) else k0 false)
noncomputable def z92z [Fuel] : T_z92z := @z92z_ NN
def SS_z92z (g : T_z92z) : Spec A := fun args => match args with | [.d (.int .u8 a1)] => fun k => g a1 (fun z0 => k (.d (.bool z0)) [.undef]) | _ => fun _ => none
noncomputable def code_249 : Code := (Tryz.f249.body).getD .skip
noncomputable def E_z92z (g : Nat) : Env A := mkE [] [] [] [] [] [] [] [] [] []
theorem sm_z92z (g : Nat) : Same (SS_z92z (@z92z_ g)) (abody (E_z92z g) Tryz.f249 code_249 0 [] [.asis] g) := by intro args; unfold SS_z92z; split; exact .inr fun R k => (by kernel_rfl); exact .inl fun R k => rfl
theorem ok_z92z [Fuel] : Ok 249 (SS_z92z (@z92z _)) := okF_of std .nil ⟨rfl, rfl, by kernel_rfl, rfl, rfl, rfl⟩ (sm_z92z NN) (cuts0 (fun _ => rfl) (by kernel_rfl)) Tryz.func249 (by kernel_rfl) (by kernel_rfl)
abbrev T_z57z : Type 1 := List UInt8 → {R : Type} → (Int → Bool → Option R) → Option R
structure C_z57z where
 N : Nat
 z92z : T_z92z
 z95z : T_z95z
def z57z_L2 (g : C_z57z) : Nat → List UInt8 → Int → Int → Int → {R : Type} → (Int → Bool → Option R) → (Int → Option R) → Option R
 | 0, _, _, _, _, _, _, _ => none
 | n + 1, v2, v3, v4, v5, _, e0, e1 => (bif (decide (v5 < v4)) then (get_ v2 v5 fun x10 => (g.z95z (x10.toNat : Int) (fun r11 => (bif r11 then z57z_L2 g n v2 (w64 (v3 + 1)) v4 (w64 (v5 + 1)) e0 e1 else (get_ v2 v5 fun x12 => (g.z92z (x12.toNat : Int) (fun r13 => (bif (!r13) then e0 0 false else z57z_L2 g n v2 v3 v4 (w64 (v5 + 1)) e0 e1)))))))) else e1 v3)
def z57z_ (g : C_z57z) (a1 : List UInt8) {R : Type} (k0 : Int → Bool → Option R) : Option R :=
 (z57z_L2 g g.N a1 0 (a1.length : Int) 0 (fun e14 e15 => k0 e14 e15) (fun e16 => k0 e16 true))
noncomputable def I_z57z [Fuel] : C_z57z := ⟨NN, @z92z _, @z95z _⟩
noncomputable def z57z [Fuel] : T_z57z := @z57z_ I_z57z
def SS_z57z (g : T_z57z) : Spec A := fun args => match args with | [.d (.str a1)] => fun k => g a1 (fun z0 z1 => k (.tup [.d (.int .i64 z0), .d (.bool z1)]) [.undef]) | _ => fun _ => none
def sh_z57z_L2 : SSt := mkSh 25 0 [(0, .str), (2, .int .i64), (6, .int .i64), (7, .int .i64)] []
def LP_z57z_L2 (g : C_z57z) (n : Nat) : LPT A := fun ps => match ps with | [.d (.str p1), .d (.int .i64 p2), .d (.int .i64 p3), .d (.int .i64 p4)] => fun K => z57z_L2 g n p1 p2 p3 p4 (fun z0 z1 => K .ret (mkSt 25 0 [(2, .d (.int .i64 z0)), (3, .d (.bool z1))] [])) (fun z0 => K (.exit 0) (mkSt 25 0 [(2, .d (.int .i64 z0))] [])) | _ => fun _ => none
noncomputable def code_248 : Code := (Tryz.f248.body).getD .skip
noncomputable def E_z57z (g : C_z57z) : Env A := mkE [(249, SS_z92z g.z92z), (288, SS_z95z g.z95z)] [] [(2, ⟨[0, 2, 6, 7], [], [], [], [], []⟩)] [(2, ⟨[2, 3], [], [], [], [], []⟩)] [(2, pieceOf sh_z57z_L2 (LP_z57z_L2 g g.N))] [] [] [] [] []
theorem ct_z57z [Fuel] : NatTab (E_z57z I_z57z).C := ct_of (P := Tryz.prog) (T := T) (.cons ok_z92z (.cons ok_z95z .nil)) (by kernel_rfl)
noncomputable def cb_z57z_L2 : Code := sub [1, 0, 1, 0, 0] code_248
theorem s_z57z_L2 (g : C_z57z) (n : Nat) : StepOk (E_z57z g) g.N cb_z57z_L2 sh_z57z_L2 (LP_z57z_L2 g) n := by intro ps; unfold LP_z57z_L2; split; exact .inr fun R K => (by kernel_rfl); exact .inl fun R K => rfl
theorem lf_z57z_L2 [Fuel] : LoopFine (E_z57z I_z57z) NN cb_z57z_L2 := fine_loop sh_z57z_L2 (LP_z57z_L2 I_z57z) (by kernel_rfl) ct_z57z (cuts0 (fun _ => rfl) (by kernel_rfl)) (fun ps R K => by unfold LP_z57z_L2; split <;> (try unfold z57z_L2) <;> rfl) (s_z57z_L2 I_z57z)
theorem sm_z57z (g : C_z57z) : Same (SS_z57z (@z57z_ g)) (abody (E_z57z g) Tryz.f248 code_248 0 [] [.asis, .asis] g.N) := by intro args; unfold SS_z57z; split; exact .inr fun R k => (by kernel_rfl); exact .inl fun R k => rfl
theorem ok_z57z [Fuel] : Ok 248 (SS_z57z (@z57z _)) := okF_of std (.cons ok_z92z (.cons ok_z95z .nil)) ⟨rfl, rfl, by kernel_rfl, rfl, rfl, rfl⟩ (sm_z57z I_z57z) (cutsL (fun _ => rfl) (.cons lf_z57z_L2 .nil) (by kernel_rfl)) Tryz.func248 (by kernel_rfl) (by kernel_rfl)
abbrev T_call_split : Type 1 := List UInt8 → {R : Type} → (Int → Bool → Option R) → Option R
structure C_call_split where
 N : Nat
 z15z : T_z15z
 z57z : T_z57z
def call_split_ (g : C_call_split) (a1 : List UInt8) {R : Type} (k0 : Int → Bool → Option R) : Option R :=
 (g.z57z a1 (fun r2 r3 => (bif (!r3) then k0 0 false else (bif (decide ((a1.length : Int) > 10)) then k0 0 false else (g.z15z a1 [48, 49, 50, 51, 52, 53, 54, 55, 56, 57] (fun r4 => (bif (decide (r4 < 1)) then k0 0 false else (bif (decide (r4 > 3)) then k0 0 false else (bif (decide ((w64 ((w64 ((a1.length : Int) - r4)) - 1)) < 1)) then k0 0 false else (bif (decide ((w64 ((w64 ((a1.length : Int) - r4)) - 1)) > 4)) then k0 0 false else (bif (decide (0 ≤ r4) && decide (r4 ≤ (a1.length : Int))) then (g.z57z (a1.take (r4 : Int).toNat) (fun r5 r6 => k0 r4 (decide (r5 > 0)))) else none)))))))))))
noncomputable def I_call_split [Fuel] : C_call_split := ⟨NN, @z15z _, @z57z _⟩
noncomputable def call_split [Fuel] : T_call_split := @call_split_ I_call_split
def SS_call_split (g : T_call_split) : Spec A := fun args => match args with | [.d (.str a1)] => fun k => g a1 (fun z0 z1 => k (.tup [.d (.int .i64 z0), .d (.bool z1)]) [.undef]) | _ => fun _ => none
noncomputable def code_247 : Code := (Tryz.f247.body).getD .skip
noncomputable def E_call_split (g : C_call_split) : Env A := mkE [(194, SS_z15z g.z15z), (248, SS_z57z g.z57z)] [] [] [] [] [] [] [] [] []
theorem sm_call_split (g : C_call_split) : Same (SS_call_split (@call_split_ g)) (abody (E_call_split g) Tryz.f247 code_247 0 [] [.asis, .asis] g.N) := by intro args; unfold SS_call_split; split; exact .inr fun R k => (by kernel_rfl); exact .inl fun R k => rfl
theorem ok_call_split [Fuel] : Ok 247 (SS_call_split (@call_split _)) := okF_of std (.cons ok_z15z (.cons ok_z57z .nil)) ⟨rfl, rfl, by kernel_rfl, rfl, rfl, rfl⟩ (sm_call_split I_call_split) (cuts0 (fun _ => rfl) (by kernel_rfl)) Tryz.func247 (by kernel_rfl) (by kernel_rfl)
end Go.Am
