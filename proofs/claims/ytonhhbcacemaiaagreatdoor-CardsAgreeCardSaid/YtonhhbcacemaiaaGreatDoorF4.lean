/- The functions of the program as Lean functions, each shown to be what the code computes, part 4. No condition: lemmas for the claim. -/
import Derived.Test.YtonhhbcacemaiaaGreatDoorF0
import Derived.Test.YtonhhbcacemaiaaGreatDoorFSh
import Derived.Test.YtonhhbcacemaiaaGreatDoorF1
import Derived.Test.YtonhhbcacemaiaaGreatDoorF2
import Derived.Test.YtonhhbcacemaiaaGreatDoorF3
set_option linter.unusedVariables false
set_option maxRecDepth 100000
namespace Go.Am
open Go Go.Proofs
abbrev T_call_based : Type 1 := List UInt8 → {R : Type} → (G_Parts → Bool → Option R) → Option R
structure C_call_based where
 N : Nat
 call_split : T_call_split
def call_based_ (g : C_call_based) (a1 : List UInt8) {R : Type} (k0 : G_Parts → Bool → Option R) : Option R :=
 (g.call_split a1 (fun r2 r3 => (bif (!r3) then k0 (⟨[], [], [], 0, []⟩ : G_Parts) false else (bif (decide (0 ≤ (w64 (r2 + 1))) && decide ((w64 (r2 + 1)) ≤ (a1.length : Int))) then (bif (decide (0 ≤ (w64 (r2 + 1))) && decide ((w64 (r2 + 1)) ≤ (a1.length : Int))) then k0 (⟨a1, (a1.take ((w64 (r2 + 1)) : Int).toNat), (a1.drop ((w64 (r2 + 1)) : Int).toNat), 0, []⟩ : G_Parts) true else none) else none))))
noncomputable def I_call_based [Fuel] : C_call_based := ⟨NN, @call_split _⟩
noncomputable def call_based [Fuel] : T_call_based := @call_based_ I_call_based
def SS_call_based (g : T_call_based) : Spec A := fun args => match args with | [.d (.str a1)] => fun k => g a1 (fun z0 z1 => k (.tup [.agg [.d (.str z0.f_Base), .d (.str z0.f_Prefix), .d (.str z0.f_Suffix), .d (.int .i64 z0.f_Kind), .d (.str z0.f_Added)], .d (.bool z1)]) [.undef]) | _ => fun _ => none
noncomputable def code_206 : Code := (Tryz.f206.body).getD .skip
noncomputable def E_call_based (g : C_call_based) : Env A := mkE [(247, SS_call_split g.call_split)] [(2, [0])] [] [] [] [] [] [] [] []
theorem sm_call_based (g : C_call_based) : Same (SS_call_based (@call_based_ g)) (abody (E_call_based g) Tryz.f206 code_206 1 [] [.asis, .asis] g.N) := by intro args; unfold SS_call_based; split; exact .inr fun R k => (by kernel_rfl); exact .inl fun R k => rfl
theorem ok_call_based [Fuel] : Ok 206 (SS_call_based (@call_based _)) := okF_of std (.cons ok_call_split .nil) ⟨rfl, rfl, by kernel_rfl, rfl, rfl, rfl⟩ (sm_call_based I_call_based) (cuts0 (fun _ => rfl) (by kernel_rfl)) Tryz.func206 (by kernel_rfl) (by kernel_rfl)
abbrev T_call_isBegin : Type 1 := List UInt8 → {R : Type} → (Bool → Option R) → Option R
structure C_call_isBegin where
 N : Nat
 call_isPlain : T_call_isPlain
def call_isBegin_ (g : C_call_isBegin) (a1 : List UInt8) {R : Type} (k0 : Bool → Option R) : Option R :=
 (g.call_isPlain a1 (fun r2 r3 => (bif r3 then (bif (decide (r2 > 0)) then k0 (decide ((a1.length : Int) ≤ 4)) else k0 false) else k0 false)))
noncomputable def I_call_isBegin [Fuel] : C_call_isBegin := ⟨NN, @call_isPlain _⟩
noncomputable def call_isBegin [Fuel] : T_call_isBegin := @call_isBegin_ I_call_isBegin
def SS_call_isBegin (g : T_call_isBegin) : Spec A := fun args => match args with | [.d (.str a1)] => fun k => g a1 (fun z0 => k (.d (.bool z0)) [.undef]) | _ => fun _ => none
noncomputable def code_207 : Code := (Tryz.f207.body).getD .skip
noncomputable def E_call_isBegin (g : C_call_isBegin) : Env A := mkE [(248, SS_call_isPlain g.call_isPlain)] [] [] [] [] [] [] [] [] []
theorem sm_call_isBegin (g : C_call_isBegin) : Same (SS_call_isBegin (@call_isBegin_ g)) (abody (E_call_isBegin g) Tryz.f207 code_207 0 [] [.asis] g.N) := by intro args; unfold SS_call_isBegin; split; exact .inr fun R k => (by kernel_rfl); exact .inl fun R k => rfl
theorem ok_call_isBegin [Fuel] : Ok 207 (SS_call_isBegin (@call_isBegin _)) := okF_of std (.cons ok_call_isPlain .nil) ⟨rfl, rfl, by kernel_rfl, rfl, rfl, rfl⟩ (sm_call_isBegin I_call_isBegin) (cuts0 (fun _ => rfl) (by kernel_rfl)) Tryz.func207 (by kernel_rfl) (by kernel_rfl)
abbrev T_call_tail : Type 1 := List UInt8 → {R : Type} → (Int → List UInt8 → Bool → Option R) → Option R
structure C_call_tail where
 N : Nat
 call_isBegin : T_call_isBegin
 call_isDigit : T_call_isDigit
def call_tail_ (g : C_call_tail) (a1 : List UInt8) {R : Type} (k0 : Int → List UInt8 → Bool → Option R) : Option R :=
 (bif (a1 == [112]) then k0 3 [] true else (bif (a1 == [109]) then k0 4 [] true else (bif (a1 == [109, 109]) then k0 5 [] true else (bif (a1 == [97, 109]) then k0 6 [] true else (bif ((a1.length : Int) == 1) then (at_ a1 0 fun x2 => (g.call_isDigit (x2.toNat : Int) (fun r3 => (bif r3 then k0 2 a1 true else (g.call_isBegin a1 (fun r4 => k0 1 a1 r4)))))) else (g.call_isBegin a1 (fun r5 => k0 1 a1 r5)))))))
noncomputable def I_call_tail [Fuel] : C_call_tail := ⟨NN, @call_isBegin _, @call_isDigit _⟩
noncomputable def call_tail [Fuel] : T_call_tail := @call_tail_ I_call_tail
def SS_call_tail (g : T_call_tail) : Spec A := fun args => match args with | [.d (.str a1)] => fun k => g a1 (fun z0 z1 z2 => k (.tup [.d (.int .i64 z0), .d (.str z1), .d (.bool z2)]) [.undef]) | _ => fun _ => none
noncomputable def code_208 : Code := (Tryz.f208.body).getD .skip
noncomputable def E_call_tail (g : C_call_tail) : Env A := mkE [(207, SS_call_isBegin g.call_isBegin), (249, SS_call_isDigit g.call_isDigit)] [] [] [] [] [] [] [] [] []
theorem sm_call_tail (g : C_call_tail) : Same (SS_call_tail (@call_tail_ g)) (abody (E_call_tail g) Tryz.f208 code_208 0 [] [.asis, .asis, .asis] g.N) := by intro args; unfold SS_call_tail; split; exact .inr fun R k => (by kernel_rfl); exact .inl fun R k => rfl
theorem ok_call_tail [Fuel] : Ok 208 (SS_call_tail (@call_tail _)) := okF_of std (.cons ok_call_isBegin (.cons ok_call_isDigit .nil)) ⟨rfl, rfl, by kernel_rfl, rfl, rfl, rfl⟩ (sm_call_tail I_call_tail) (cuts0 (fun _ => rfl) (by kernel_rfl)) Tryz.func208 (by kernel_rfl) (by kernel_rfl)
abbrev T_call_Parts : Type 1 := List UInt8 → {R : Type} → (G_Parts → Bool → Option R) → Option R
structure C_call_Parts where
 N : Nat
 strings_Cut : T_strings_Cut
 call_based : T_call_based
 call_isBegin : T_call_isBegin
 call_tail : T_call_tail
def call_Parts_ (g : C_call_Parts) (a1 : List UInt8) {R : Type} (k0 : G_Parts → Bool → Option R) : Option R :=
 (bif (decide ((a1.length : Int) > 14)) then k0 (⟨[], [], [], 0, []⟩ : G_Parts) false else (g.call_based a1 (fun r2 r3 => (bif r3 then k0 r2 true else (g.strings_Cut a1 [47] (fun r4 r5 r6 => (bif (!r6) then k0 (⟨[], [], [], 0, []⟩ : G_Parts) false else (g.call_based r5 (fun r7 r8 => (bif r8 then (g.call_isBegin r4 (fun r9 => (bif r9 then k0 (⟨r7.f_Base, r7.f_Prefix, r7.f_Suffix, 1, r4⟩ : G_Parts) true else (g.call_based r4 (fun r10 r11 => (g.call_tail r5 (fun r12 r13 r14 => (bif (!r11) then k0 (⟨[], [], [], 0, []⟩ : G_Parts) false else (bif (!r14) then k0 (⟨[], [], [], 0, []⟩ : G_Parts) false else k0 (⟨r10.f_Base, r10.f_Prefix, r10.f_Suffix, r12, r13⟩ : G_Parts) true))))))))) else (g.call_based r4 (fun r15 r16 => (g.call_tail r5 (fun r17 r18 r19 => (bif (!r16) then k0 (⟨[], [], [], 0, []⟩ : G_Parts) false else (bif (!r19) then k0 (⟨[], [], [], 0, []⟩ : G_Parts) false else k0 (⟨r15.f_Base, r15.f_Prefix, r15.f_Suffix, r17, r18⟩ : G_Parts) true))))))))))))))))
noncomputable def I_call_Parts [Fuel] : C_call_Parts := ⟨NN, @strings_Cut _, @call_based _, @call_isBegin _, @call_tail _⟩
noncomputable def call_Parts [Fuel] : T_call_Parts := @call_Parts_ I_call_Parts
def SS_call_Parts (g : T_call_Parts) : Spec A := fun args => match args with | [.d (.str a1)] => fun k => g a1 (fun z0 z1 => k (.tup [.agg [.d (.str z0.f_Base), .d (.str z0.f_Prefix), .d (.str z0.f_Suffix), .d (.int .i64 z0.f_Kind), .d (.str z0.f_Added)], .d (.bool z1)]) [.undef]) | _ => fun _ => none
noncomputable def code_148 : Code := (Tryz.f148.body).getD .skip
noncomputable def E_call_Parts (g : C_call_Parts) : Env A := mkE [(131, SS_strings_Cut g.strings_Cut), (206, SS_call_based g.call_based), (207, SS_call_isBegin g.call_isBegin), (208, SS_call_tail g.call_tail)] [(2, [0]), (4, [1]), (9, [2]), (11, [3])] [] [] [] [] [] [] [] []
theorem sm_call_Parts (g : C_call_Parts) : Same (SS_call_Parts (@call_Parts_ g)) (abody (E_call_Parts g) Tryz.f148 code_148 4 [] [.asis, .asis] g.N) := by intro args; unfold SS_call_Parts; split; exact .inr fun R k => (by kernel_rfl); exact .inl fun R k => rfl
theorem ok_call_Parts [Fuel] : Ok 148 (SS_call_Parts (@call_Parts _)) := okF_of std (.cons ok_strings_Cut (.cons ok_call_based (.cons ok_call_isBegin (.cons ok_call_tail .nil)))) ⟨rfl, rfl, by kernel_rfl, rfl, rfl, rfl⟩ (sm_call_Parts I_call_Parts) (cuts0 (fun _ => rfl) (by kernel_rfl)) Tryz.func148 (by kernel_rfl) (by kernel_rfl)
abbrev T_call_Is : Type 1 := List UInt8 → {R : Type} → (Bool → Option R) → Option R
structure C_call_Is where
 N : Nat
 call_Parts : T_call_Parts
def call_Is_ (g : C_call_Is) (a1 : List UInt8) {R : Type} (k0 : Bool → Option R) : Option R :=
 (g.call_Parts a1 (fun r2 r3 => k0 r3))
noncomputable def I_call_Is [Fuel] : C_call_Is := ⟨NN, @call_Parts _⟩
noncomputable def call_Is [Fuel] : T_call_Is := @call_Is_ I_call_Is
def SS_call_Is (g : T_call_Is) : Spec A := fun args => match args with | [.d (.str a1)] => fun k => g a1 (fun z0 => k (.d (.bool z0)) [.undef]) | _ => fun _ => none
noncomputable def code_97 : Code := (Tryz.f97.body).getD .skip
noncomputable def E_call_Is (g : C_call_Is) : Env A := mkE [(148, SS_call_Parts g.call_Parts)] [(3, [0])] [] [] [] [] [] [] [] []
theorem sm_call_Is (g : C_call_Is) : Same (SS_call_Is (@call_Is_ g)) (abody (E_call_Is g) Tryz.f97 code_97 1 [] [.asis] g.N) := by intro args; unfold SS_call_Is; split; exact .inr fun R k => (by kernel_rfl); exact .inl fun R k => rfl
theorem ok_call_Is [Fuel] : Ok 97 (SS_call_Is (@call_Is _)) := okF_of std (.cons ok_call_Parts .nil) ⟨rfl, rfl, by kernel_rfl, rfl, rfl, rfl⟩ (sm_call_Is I_call_Is) (cuts0 (fun _ => rfl) (by kernel_rfl)) Tryz.func97 (by kernel_rfl) (by kernel_rfl)
abbrev T_kit_IsKey : Type 1 := List UInt8 → {R : Type} → (Bool → Option R) → Option R
structure C_kit_IsKey where
 N : Nat
 strings_IndexByte : T_strings_IndexByte
 strings_Trim : T_strings_Trim
def kit_IsKey_ (g : C_kit_IsKey) (a1 : List UInt8) {R : Type} (k0 : Bool → Option R) : Option R :=
 (bif (!(a1 == [])) then (bif (decide ((a1.length : Int) ≤ 40)) then (at_ a1 0 fun x2 => (g.strings_IndexByte [97, 98, 99, 100, 101, 102, 103, 104, 105, 106, 107, 108, 109, 110, 111, 112, 113, 114, 115, 116, 117, 118, 119, 120, 121, 122] (x2.toNat : Int) (fun r3 => (bif (decide (r3 ≥ 0)) then (g.strings_Trim a1 [97, 98, 99, 100, 101, 102, 103, 104, 105, 106, 107, 108, 109, 110, 111, 112, 113, 114, 115, 116, 117, 118, 119, 120, 121, 122, 48, 49, 50, 51, 52, 53, 54, 55, 56, 57, 45, 95] (fun r4 => k0 (r4 == []))) else k0 false)))) else k0 false) else k0 false)
noncomputable def I_kit_IsKey [Fuel] : C_kit_IsKey := ⟨NN, @strings_IndexByte _, @strings_Trim _⟩
noncomputable def kit_IsKey [Fuel] : T_kit_IsKey := @kit_IsKey_ I_kit_IsKey
def SS_kit_IsKey (g : T_kit_IsKey) : Spec A := fun args => match args with | [.d (.str a1)] => fun k => g a1 (fun z0 => k (.d (.bool z0)) [.undef]) | _ => fun _ => none
noncomputable def code_49 : Code := (Tryz.f49.body).getD .skip
noncomputable def E_kit_IsKey (g : C_kit_IsKey) : Env A := mkE [(109, SS_strings_IndexByte g.strings_IndexByte), (110, SS_strings_Trim g.strings_Trim)] [] [] [] [] [] [] [] [] []
theorem sm_kit_IsKey (g : C_kit_IsKey) : Same (SS_kit_IsKey (@kit_IsKey_ g)) (abody (E_kit_IsKey g) Tryz.f49 code_49 0 [] [.asis] g.N) := by intro args; unfold SS_kit_IsKey; split; exact .inr fun R k => (by kernel_rfl); exact .inl fun R k => rfl
theorem ok_kit_IsKey [Fuel] : Ok 49 (SS_kit_IsKey (@kit_IsKey _)) := okF_of std (.cons ok_strings_IndexByte (.cons ok_strings_Trim .nil)) ⟨rfl, rfl, by kernel_rfl, rfl, rfl, rfl⟩ (sm_kit_IsKey I_kit_IsKey) (cuts0 (fun _ => rfl) (by kernel_rfl)) Tryz.func49 (by kernel_rfl) (by kernel_rfl)
abbrev T_cmp_isNaN__int : Type 1 := Int → {R : Type} → (Bool → Option R) → Option R
def cmp_isNaN__int_ (g : Nat) (a1 : Int) {R : Type} (k0 : Bool → Option R) : Option R :=
 k0 (a1 != a1)
noncomputable def cmp_isNaN__int [Fuel] : T_cmp_isNaN__int := @cmp_isNaN__int_ NN
def SS_cmp_isNaN__int (g : T_cmp_isNaN__int) : Spec A := fun args => match args with | [.d (.int .i64 a1)] => fun k => g a1 (fun z0 => k (.d (.bool z0)) [.undef]) | _ => fun _ => none
noncomputable def code_151 : Code := (Tryz.f151.body).getD .skip
noncomputable def E_cmp_isNaN__int (g : Nat) : Env A := mkE [] [] [] [] [] [] [] [] [] []
theorem sm_cmp_isNaN__int (g : Nat) : Same (SS_cmp_isNaN__int (@cmp_isNaN__int_ g)) (abody (E_cmp_isNaN__int g) Tryz.f151 code_151 0 [] [.asis] g) := by intro args; unfold SS_cmp_isNaN__int; split; exact .inr fun R k => (by kernel_rfl); exact .inl fun R k => rfl
theorem ok_cmp_isNaN__int [Fuel] : Ok 151 (SS_cmp_isNaN__int (@cmp_isNaN__int _)) := okF_of std .nil ⟨rfl, rfl, by kernel_rfl, rfl, rfl, rfl⟩ (sm_cmp_isNaN__int NN) (cuts0 (fun _ => rfl) (by kernel_rfl)) Tryz.func151 (by kernel_rfl) (by kernel_rfl)
noncomputable def Ed_cmp_isNaN__int (g : Nat) : Env A := mkED [] [] [] [] [] [] [] [] [] []
theorem smd_cmp_isNaN__int (g : Nat) : Same (SS_cmp_isNaN__int (@cmp_isNaN__int_ g)) (abody (Ed_cmp_isNaN__int g) Tryz.f151 code_151 0 [] [.asis] g) := by intro args; unfold SS_cmp_isNaN__int; split; exact .inr fun R k => (by kernel_rfl); exact .inl fun R k => rfl
theorem okd_cmp_isNaN__int [Fuel] : OkD 151 (SS_cmp_isNaN__int (@cmp_isNaN__int _)) := okF_of stdD .nil ⟨rfl, rfl, by kernel_rfl, rfl, rfl, rfl⟩ (smd_cmp_isNaN__int NN) (cuts0 (fun _ => rfl) (by kernel_rfl)) Tryz.func151 (by kernel_rfl) (by kernel_rfl)
abbrev T_cmp_Compare__int : Type 1 := Int → Int → {R : Type} → (Int → Option R) → Option R
structure C_cmp_Compare__int where
 N : Nat
 cmp_isNaN__int : T_cmp_isNaN__int
def cmp_Compare__int_ (g : C_cmp_Compare__int) (a1 a2 : Int) {R : Type} (k0 : Int → Option R) : Option R :=
 (g.cmp_isNaN__int a1 (fun r3 => (g.cmp_isNaN__int a2 (fun r4 => (bif r3 then (bif r4 then k0 0 else k0 (-1)) else (bif r4 then k0 1 else (bif (decide (a1 < a2)) then k0 (-1) else (bif (decide (a1 > a2)) then k0 1 else k0 0))))))))
noncomputable def I_cmp_Compare__int [Fuel] : C_cmp_Compare__int := ⟨NN, @cmp_isNaN__int _⟩
noncomputable def cmp_Compare__int [Fuel] : T_cmp_Compare__int := @cmp_Compare__int_ I_cmp_Compare__int
def SS_cmp_Compare__int (g : T_cmp_Compare__int) : Spec A := fun args => match args with | [.d (.int .i64 a1), .d (.int .i64 a2)] => fun k => g a1 a2 (fun z0 => k (.d (.int .i64 z0)) [.undef, .undef]) | _ => fun _ => none
noncomputable def code_105 : Code := (Tryz.f105.body).getD .skip
noncomputable def E_cmp_Compare__int (g : C_cmp_Compare__int) : Env A := mkE [(151, SS_cmp_isNaN__int g.cmp_isNaN__int)] [] [] [] [] [] [] [] [] []
theorem sm_cmp_Compare__int (g : C_cmp_Compare__int) : Same (SS_cmp_Compare__int (@cmp_Compare__int_ g)) (abody (E_cmp_Compare__int g) Tryz.f105 code_105 0 [] [.asis] g.N) := by intro args; unfold SS_cmp_Compare__int; split; exact .inr fun R k => (by kernel_rfl); exact .inl fun R k => rfl
theorem ok_cmp_Compare__int [Fuel] : Ok 105 (SS_cmp_Compare__int (@cmp_Compare__int _)) := okF_of std (.cons ok_cmp_isNaN__int .nil) ⟨rfl, rfl, by kernel_rfl, rfl, rfl, rfl⟩ (sm_cmp_Compare__int I_cmp_Compare__int) (cuts0 (fun _ => rfl) (by kernel_rfl)) Tryz.func105 (by kernel_rfl) (by kernel_rfl)
noncomputable def Ed_cmp_Compare__int (g : C_cmp_Compare__int) : Env A := mkED [(151, SS_cmp_isNaN__int g.cmp_isNaN__int)] [] [] [] [] [] [] [] [] []
theorem smd_cmp_Compare__int (g : C_cmp_Compare__int) : Same (SS_cmp_Compare__int (@cmp_Compare__int_ g)) (abody (Ed_cmp_Compare__int g) Tryz.f105 code_105 0 [] [.asis] g.N) := by intro args; unfold SS_cmp_Compare__int; split; exact .inr fun R k => (by kernel_rfl); exact .inl fun R k => rfl
theorem okd_cmp_Compare__int [Fuel] : OkD 105 (SS_cmp_Compare__int (@cmp_Compare__int _)) := okF_of stdD (.cons okd_cmp_isNaN__int .nil) ⟨rfl, rfl, by kernel_rfl, rfl, rfl, rfl⟩ (smd_cmp_Compare__int I_cmp_Compare__int) (cuts0 (fun _ => rfl) (by kernel_rfl)) Tryz.func105 (by kernel_rfl) (by kernel_rfl)
abbrev T_cmp_Or__int : Type 1 := List Int → {R : Type} → (Int → Option R) → Option R
def cmp_Or__int_L3 (g : Nat) : Nat → Int → List Int → Int → Int → {R : Type} → (Int → Int → Option R) → (Int → Option R) → Option R
 | 0, _, _, _, _, _, _, _ => none
 | n + 1, v2, v3, v4, v5, _, e0, e1 => (bif (decide (v5 < v4)) then (get_ v3 v5 fun x7 => (bif (x7 != v2) then e0 x7 v2 else cmp_Or__int_L3 g n v2 v3 v4 (w64 (v5 + 1)) e0 e1)) else e1 v2)
def cmp_Or__int_ (g : Nat) (a1 : List Int) {R : Type} (k0 : Int → Option R) : Option R :=
 (cmp_Or__int_L3 g g 0 a1 (a1.length : Int) 0 (fun e8 e9 => k0 e8) (fun e10 => k0 e10))
noncomputable def cmp_Or__int [Fuel] : T_cmp_Or__int := @cmp_Or__int_ NN
def SS_cmp_Or__int (g : T_cmp_Or__int) : Spec A := fun args => match args with | [.d (.sl 3 a1)] => fun k => g a1 (fun z0 => k (.d (.int .i64 z0)) [.undef]) | _ => fun _ => none
def sh_cmp_Or__int_L3 : SSt := mkSh 18 0 [(3, .int .i64), (6, .sl 3), (7, .int .i64), (8, .int .i64)] []
def LP_cmp_Or__int_L3 (g : Nat) (n : Nat) : LPT A := fun ps => match ps with | [.d (.int .i64 p1), .d (.sl 3 p2), .d (.int .i64 p3), .d (.int .i64 p4)] => fun K => cmp_Or__int_L3 g n p1 p2 p3 p4 (fun z0 z1 => K .ret (mkSt 18 0 [(2, .d (.int .i64 z0)), (3, .d (.int .i64 z1))] [])) (fun z0 => K (.exit 0) (mkSt 18 0 [(3, .d (.int .i64 z0))] [])) | _ => fun _ => none
noncomputable def code_77 : Code := (Tryz.f77.body).getD .skip
noncomputable def E_cmp_Or__int (g : Nat) : Env A := mkE [] [] [(3, ⟨[3, 6, 7, 8], [], [], []⟩)] [(3, ⟨[2, 3], [], [], []⟩)] [(3, pieceOf sh_cmp_Or__int_L3 (LP_cmp_Or__int_L3 g g))] [] [] [] [] []
theorem ct_cmp_Or__int [Fuel] : NatTab (E_cmp_Or__int NN).C := ct_of (P := Tryz.prog) (T := T) .nil (by kernel_rfl)
noncomputable def cb_cmp_Or__int_L3 : Code := sub [1, 1, 0, 1, 0, 0] code_77
theorem s_cmp_Or__int_L3 (g : Nat) (n : Nat) : StepOk (E_cmp_Or__int g) g cb_cmp_Or__int_L3 sh_cmp_Or__int_L3 (LP_cmp_Or__int_L3 g) n := by intro ps; unfold LP_cmp_Or__int_L3; split; exact .inr fun R K => (by kernel_rfl); exact .inl fun R K => rfl
theorem lf_cmp_Or__int_L3 [Fuel] : LoopFine (E_cmp_Or__int NN) NN cb_cmp_Or__int_L3 := fine_loop sh_cmp_Or__int_L3 (LP_cmp_Or__int_L3 NN) (by kernel_rfl) ct_cmp_Or__int (cuts0 (fun _ => rfl) (by kernel_rfl)) (fun ps R K => by unfold LP_cmp_Or__int_L3; split <;> (try unfold cmp_Or__int_L3) <;> rfl) (s_cmp_Or__int_L3 NN)
theorem sm_cmp_Or__int (g : Nat) : Same (SS_cmp_Or__int (@cmp_Or__int_ g)) (abody (E_cmp_Or__int g) Tryz.f77 code_77 0 [] [.asis] g) := by intro args; unfold SS_cmp_Or__int; split; exact .inr fun R k => (by kernel_rfl); exact .inl fun R k => rfl
theorem ok_cmp_Or__int [Fuel] : Ok 77 (SS_cmp_Or__int (@cmp_Or__int _)) := okF_of std .nil ⟨rfl, rfl, by kernel_rfl, rfl, rfl, rfl⟩ (sm_cmp_Or__int NN) (cutsL (fun _ => rfl) (.cons lf_cmp_Or__int_L3 .nil) (by kernel_rfl)) Tryz.func77 (by kernel_rfl) (by kernel_rfl)
noncomputable def Ed_cmp_Or__int (g : Nat) : Env A := mkED [] [] [(3, ⟨[3, 6, 7, 8], [], [], []⟩)] [(3, ⟨[2, 3], [], [], []⟩)] [(3, pieceOf sh_cmp_Or__int_L3 (LP_cmp_Or__int_L3 g g))] [] [] [] [] []
theorem ctd_cmp_Or__int [Fuel] : NatTab (Ed_cmp_Or__int NN).C := ct_of (P := Tryz.prog) (T := TD) .nil (by kernel_rfl)
theorem sd_cmp_Or__int_L3 (g : Nat) (n : Nat) : StepOk (Ed_cmp_Or__int g) g cb_cmp_Or__int_L3 sh_cmp_Or__int_L3 (LP_cmp_Or__int_L3 g) n := by intro ps; unfold LP_cmp_Or__int_L3; split; exact .inr fun R K => (by kernel_rfl); exact .inl fun R K => rfl
theorem lfd_cmp_Or__int_L3 [Fuel] : LoopFine (Ed_cmp_Or__int NN) NN cb_cmp_Or__int_L3 := fine_loop sh_cmp_Or__int_L3 (LP_cmp_Or__int_L3 NN) (by kernel_rfl) ctd_cmp_Or__int (cuts0 (fun _ => rfl) (by kernel_rfl)) (fun ps R K => by unfold LP_cmp_Or__int_L3; split <;> (try unfold cmp_Or__int_L3) <;> rfl) (sd_cmp_Or__int_L3 NN)
theorem smd_cmp_Or__int (g : Nat) : Same (SS_cmp_Or__int (@cmp_Or__int_ g)) (abody (Ed_cmp_Or__int g) Tryz.f77 code_77 0 [] [.asis] g) := by intro args; unfold SS_cmp_Or__int; split; exact .inr fun R k => (by kernel_rfl); exact .inl fun R k => rfl
theorem okd_cmp_Or__int [Fuel] : OkD 77 (SS_cmp_Or__int (@cmp_Or__int _)) := okF_of stdD .nil ⟨rfl, rfl, by kernel_rfl, rfl, rfl, rfl⟩ (smd_cmp_Or__int NN) (cutsL (fun _ => rfl) (.cons lfd_cmp_Or__int_L3 .nil) (by kernel_rfl)) Tryz.func77 (by kernel_rfl) (by kernel_rfl)
abbrev T_club_compareCards : Type 1 := G_Card → G_Card → {R : Type} → (Int → Option R) → Option R
structure C_club_compareCards where
 N : Nat
 strings_Compare : T_strings_Compare
 cmp_Or__int : T_cmp_Or__int
 cmp_Compare__int : T_cmp_Compare__int
def club_compareCards_ (g : C_club_compareCards) (a1 a2 : G_Card) {R : Type} (k0 : Int → Option R) : Option R :=
 (g.cmp_Compare__int a1.f_At a2.f_At (fun r3 => (g.strings_Compare a1.f_Call a2.f_Call (fun r4 => (g.strings_Compare a1.f_Band a2.f_Band (fun r5 => (g.cmp_Compare__int a1.f_Mode a2.f_Mode (fun r6 => (g.cmp_Compare__int a1.f_Kind a2.f_Kind (fun r7 => (g.cmp_Or__int [r3, r4, r5, r6, r7] (fun r8 => k0 r8))))))))))))
noncomputable def I_club_compareCards [Fuel] : C_club_compareCards := ⟨NN, @strings_Compare _, @cmp_Or__int _, @cmp_Compare__int _⟩
noncomputable def club_compareCards [Fuel] : T_club_compareCards := @club_compareCards_ I_club_compareCards
def SS_club_compareCards (g : T_club_compareCards) : Spec A := fun args => match args with | [.agg [.d (.int .i64 a1), .d (.int .i64 a2), .d (.int .i64 a3), .d (.str a4), .d (.str a5)], .agg [.d (.int .i64 a6), .d (.int .i64 a7), .d (.int .i64 a8), .d (.str a9), .d (.str a10)]] => fun k => g ⟨a1, a2, a3, a4, a5⟩ ⟨a6, a7, a8, a9, a10⟩ (fun z0 => k (.d (.int .i64 z0)) [.undef, .undef]) | _ => fun _ => none
noncomputable def code_69 : Code := (Tryz.f69.body).getD .skip
noncomputable def E_club_compareCards (g : C_club_compareCards) : Env A := mkE [(56, SS_strings_Compare g.strings_Compare), (77, SS_cmp_Or__int g.cmp_Or__int), (105, SS_cmp_Compare__int g.cmp_Compare__int)] [(2, [0]), (3, [1]), (30, [2])] [] [] [] [] [] [] [] []
theorem sm_club_compareCards (g : C_club_compareCards) : Same (SS_club_compareCards (@club_compareCards_ g)) (abody (E_club_compareCards g) Tryz.f69 code_69 3 [] [.asis] g.N) := by intro args; unfold SS_club_compareCards; split; exact .inr fun R k => (by kernel_rfl); exact .inl fun R k => rfl
theorem ok_club_compareCards [Fuel] : Ok 69 (SS_club_compareCards (@club_compareCards _)) := okF_of std (.cons ok_strings_Compare (.cons ok_cmp_Or__int (.cons ok_cmp_Compare__int .nil))) ⟨rfl, rfl, by kernel_rfl, rfl, rfl, rfl⟩ (sm_club_compareCards I_club_compareCards) (cuts0 (fun _ => rfl) (by kernel_rfl)) Tryz.func69 (by kernel_rfl) (by kernel_rfl)
noncomputable def Ed_club_compareCards (g : C_club_compareCards) : Env A := mkED [(56, SS_strings_Compare g.strings_Compare), (77, SS_cmp_Or__int g.cmp_Or__int), (105, SS_cmp_Compare__int g.cmp_Compare__int)] [(2, [0]), (3, [1]), (30, [2])] [] [] [] [] [] [] [] []
theorem smd_club_compareCards (g : C_club_compareCards) : Same (SS_club_compareCards (@club_compareCards_ g)) (abody (Ed_club_compareCards g) Tryz.f69 code_69 3 [] [.asis] g.N) := by intro args; unfold SS_club_compareCards; split; exact .inr fun R k => (by kernel_rfl); exact .inl fun R k => rfl
theorem okd_club_compareCards [Fuel] : OkD 69 (SS_club_compareCards (@club_compareCards _)) := okF_of stdD (.cons okd_strings_Compare (.cons okd_cmp_Or__int (.cons okd_cmp_Compare__int .nil))) ⟨rfl, rfl, by kernel_rfl, rfl, rfl, rfl⟩ (smd_club_compareCards I_club_compareCards) (cuts0 (fun _ => rfl) (by kernel_rfl)) Tryz.func69 (by kernel_rfl) (by kernel_rfl)
abbrev T_club_CheckCards : Type 1 := List G_Card → {R : Type} → (Int → Option R) → Option R
structure C_club_CheckCards where
 N : Nat
 kit_IsKey : T_kit_IsKey
 kit_IsMode : T_kit_IsMode
 kit_IsMoment : T_kit_IsMoment
 kit_Outside : T_kit_Outside
 club_compareCards : T_club_compareCards
 call_Is : T_call_Is
def club_CheckCards_L4 (g : C_club_CheckCards) : Nat → List G_Card → List G_Card → Int → Int → {R : Type} → (Int → Option R) → Option R → Option R
 | 0, _, _, _, _, _, _, _ => none
 | n + 1, v2, v3, v4, v5, _, e0, e1 => (bif (decide (v5 < v4)) then (get_ v3 v5 fun x14 => (g.kit_IsMoment x14.f_At (fun r15 => (bif (!r15) then e0 1 else (g.kit_Outside x14.f_Kind 1 3 (fun r16 => (bif r16 then e0 4 else (g.kit_IsMode x14.f_Mode (fun r17 => (bif (!r17) then e0 4 else (g.call_Is x14.f_Call (fun r18 => (bif (!r18) then e0 3 else (g.kit_IsKey x14.f_Band (fun r19 => (bif (!r19) then e0 5 else (bif (decide (v5 > 0)) then (get_ v2 (w64 (v5 - 1)) fun x20 => (g.club_compareCards x20 x14 (fun r21 => (bif (decide (r21 ≥ 0)) then e0 7 else club_CheckCards_L4 g n v2 v3 v4 (w64 (v5 + 1)) e0 e1)))) else club_CheckCards_L4 g n v2 v3 v4 (w64 (v5 + 1)) e0 e1))))))))))))))))) else e1)
def club_CheckCards_ (g : C_club_CheckCards) (a1 : List G_Card) {R : Type} (k0 : Int → Option R) : Option R :=
 (bif (decide ((a1.length : Int) > 3000)) then k0 2 else (club_CheckCards_L4 g g.N a1 a1 (a1.length : Int) 0 (fun e22 => k0 e22) (k0 0)))
noncomputable def I_club_CheckCards [Fuel] : C_club_CheckCards := ⟨NN, @kit_IsKey _, @kit_IsMode _, @kit_IsMoment _, @kit_Outside _, @club_compareCards _, @call_Is _⟩
noncomputable def club_CheckCards [Fuel] : T_club_CheckCards := @club_CheckCards_ I_club_CheckCards
def SS_club_CheckCards (g : T_club_CheckCards) : Spec A := fun args => match args with | [.d (.sl 46 a1)] => fun k => g a1 (fun z0 => k (.d (.int .i64 z0)) [.undef]) | _ => fun _ => none
def sh_club_CheckCards_L4 : SSt := mkSh 54 1 [(0, .sl 46), (8, .sl 46), (9, .int .i64), (10, .int .i64)] []
def LP_club_CheckCards_L4 (g : C_club_CheckCards) (n : Nat) : LPT A := fun ps => match ps with | [.d (.sl 46 p1), .d (.sl 46 p2), .d (.int .i64 p3), .d (.int .i64 p4)] => fun K => club_CheckCards_L4 g n p1 p2 p3 p4 (fun z0 => K .ret (mkSt 54 1 [(2, .d (.int .i64 z0))] [])) (K (.exit 0) (mkSt 54 1 [] [])) | _ => fun _ => none
noncomputable def code_66 : Code := (Tryz.f66.body).getD .skip
noncomputable def E_club_CheckCards (g : C_club_CheckCards) : Env A := mkE [(49, SS_kit_IsKey g.kit_IsKey), (50, SS_kit_IsMode g.kit_IsMode), (51, SS_kit_IsMoment g.kit_IsMoment), (60, SS_kit_Outside g.kit_Outside), (69, SS_club_compareCards g.club_compareCards), (97, SS_call_Is g.call_Is)] [(4, [0])] [(4, ⟨[0, 8, 9, 10], [], [], []⟩)] [(4, ⟨[2], [], [], []⟩)] [(4, pieceOf sh_club_CheckCards_L4 (LP_club_CheckCards_L4 g g.N))] [] [] [] [] []
theorem ct_club_CheckCards [Fuel] : NatTab (E_club_CheckCards I_club_CheckCards).C := ct_of (P := Tryz.prog) (T := T) (.cons ok_kit_IsKey (.cons ok_kit_IsMode (.cons ok_kit_IsMoment (.cons ok_kit_Outside (.cons ok_club_compareCards (.cons ok_call_Is .nil)))))) (by kernel_rfl)
noncomputable def cb_club_CheckCards_L4 : Code := sub [1, 1, 0, 1, 0, 0] code_66
theorem s_club_CheckCards_L4 (g : C_club_CheckCards) (n : Nat) : StepOk (E_club_CheckCards g) g.N cb_club_CheckCards_L4 sh_club_CheckCards_L4 (LP_club_CheckCards_L4 g) n := by intro ps; unfold LP_club_CheckCards_L4; split; exact .inr fun R K => (by kernel_rfl); exact .inl fun R K => rfl
theorem lf_club_CheckCards_L4 [Fuel] : LoopFine (E_club_CheckCards I_club_CheckCards) NN cb_club_CheckCards_L4 := fine_loop sh_club_CheckCards_L4 (LP_club_CheckCards_L4 I_club_CheckCards) (by kernel_rfl) ct_club_CheckCards (cuts0 (fun _ => rfl) (by kernel_rfl)) (fun ps R K => by unfold LP_club_CheckCards_L4; split <;> (try unfold club_CheckCards_L4) <;> rfl) (s_club_CheckCards_L4 I_club_CheckCards)
theorem sm_club_CheckCards (g : C_club_CheckCards) : Same (SS_club_CheckCards (@club_CheckCards_ g)) (abody (E_club_CheckCards g) Tryz.f66 code_66 1 [] [.asis] g.N) := by intro args; unfold SS_club_CheckCards; split; exact .inr fun R k => (by kernel_rfl); exact .inl fun R k => rfl
theorem ok_club_CheckCards [Fuel] : Ok 66 (SS_club_CheckCards (@club_CheckCards _)) := okF_of std (.cons ok_kit_IsKey (.cons ok_kit_IsMode (.cons ok_kit_IsMoment (.cons ok_kit_Outside (.cons ok_club_compareCards (.cons ok_call_Is .nil)))))) ⟨rfl, rfl, by kernel_rfl, rfl, rfl, rfl⟩ (sm_club_CheckCards I_club_CheckCards) (cutsL (fun _ => rfl) (.cons lf_club_CheckCards_L4 .nil) (by kernel_rfl)) Tryz.func66 (by kernel_rfl) (by kernel_rfl)
abbrev T_slices_Grow__Card_n0 : Type 1 := Int → {R : Type} → (List G_Card → Option R) → Option R
def slices_Grow__Card_n0 [Fuel] : T_slices_Grow__Card_n0 := @X_grow G_Card 56
def SS_slices_Grow__Card_n0 (g : T_slices_Grow__Card_n0) : Spec A := fun args => match args with | [.d .nsl, .d (.int .i64 x1)] => fun k => g x1 (fun z => k (.arr 46 z) [.undef, .undef]) | _ => fun _ => none
theorem h1_slices_Grow__Card_n0 [Fuel] (xs : Int) (R : Type) (k : IV A → List (IV A) → Option R) : SS_slices_Grow__Card_n0 (@slices_Grow__Card_n0 _) [.d .nsl, .d (.int .i64 xs)] k = X_grow (α := A 46) 56 xs (fun z => k (.arr 46 z) [.undef, .undef]) := by kernel_rfl
theorem h2_slices_Grow__Card_n0 [Fuel] (args : List (IV A)) (R : Type) (k : IV A → List (IV A) → Option R) (h : ∀ xs : Int, args ≠ [.d .nsl, .d (.int .i64 xs)]) : SS_slices_Grow__Card_n0 (@slices_Grow__Card_n0 _) args k = none := by unfold SS_slices_Grow__Card_n0; split; exact absurd rfl (h _); rfl
theorem ok_slices_Grow__Card_n0 [Fuel] : Ok 127 (SS_slices_Grow__Card_n0 (@slices_Grow__Card_n0 _)) := ⟨grow_fs (grow_sound rfl (tyOk Tryz.prog) (e := 46) (size := 5) (bytes := 56) (ty := 46) (by kernel_rfl) (fun w => grow_0 Tryz.grow127 w) (fun n w hn hb hm => grow_h Tryz.grow127 Tryz.ti46 Tryz.zv46 (by kernel_rfl) (by kernel_rfl) 5 56 (by kernel_rfl) (by kernel_rfl) (by decide) (by kernel_rfl) n w hn hb hm)) h1_slices_Grow__Card_n0 h2_slices_Grow__Card_n0, grow_na h1_slices_Grow__Card_n0 h2_slices_Grow__Card_n0, enters_of (fn := Tryz.f127) Tryz.func127 (by kernel_rfl) (by kernel_rfl)⟩
abbrev T_slices_Concat__Card : Type 1 := List (List G_Card) → {R : Type} → (List G_Card → Option R) → Option R
structure C_slices_Concat__Card where
 N : Nat
 slices_Grow__Card_n0 : T_slices_Grow__Card_n0
def slices_Concat__Card_L3 (g : C_slices_Concat__Card) : Nat → List (List G_Card) → Int → List (List G_Card) → Int → Int → {R : Type} → (List (List G_Card) → Int → Option R) → Option R
 | 0, _, _, _, _, _, _, _ => none
 | n + 1, v2, v3, v4, v5, v6, _, e0 => (bif (decide (v6 < v5)) then (get_ v4 v6 fun x8 => (bif (decide ((w64 (v3 + (x8.length : Int))) < 0)) then none else slices_Concat__Card_L3 g n v2 (w64 (v3 + (x8.length : Int))) v4 v5 (w64 (v6 + 1)) e0)) else e0 v2 v3)
def slices_Concat__Card_L11 (g : C_slices_Concat__Card) : Nat → List (List G_Card) → Int → Int → List G_Card → {R : Type} → (List G_Card → Option R) → Option R
 | 0, _, _, _, _, _, _ => none
 | n + 1, v12, v13, v14, v15, _, e0 => (bif (decide (v14 < v13)) then (get_ v12 v14 fun x17 => (bif (decide ((v15.length + x17.length) * 56 ≤ roomBytes')) then slices_Concat__Card_L11 g n v12 v13 (w64 (v14 + 1)) (v15 ++ x17) e0 else none)) else e0 v15)
def slices_Concat__Card_ (g : C_slices_Concat__Card) (a1 : List (List G_Card)) {R : Type} (k0 : List G_Card → Option R) : Option R :=
 (slices_Concat__Card_L3 g g.N a1 0 a1 (a1.length : Int) 0 (fun e9 e10 => (g.slices_Grow__Card_n0 e10 (fun r11 => (slices_Concat__Card_L11 g g.N e9 (e9.length : Int) 0 r11 (fun e18 => k0 e18))))))
noncomputable def I_slices_Concat__Card [Fuel] : C_slices_Concat__Card := ⟨NN, @slices_Grow__Card_n0 _⟩
noncomputable def slices_Concat__Card [Fuel] : T_slices_Concat__Card := @slices_Concat__Card_ I_slices_Concat__Card
def SS_slices_Concat__Card (g : T_slices_Concat__Card) : Spec A := fun args => match args with | [.d (.sl 41 a1)] => fun k => g a1 (fun z0 => k (.arr 46 z0) [.undef]) | _ => fun _ => none
def sh_slices_Concat__Card_L3 : SSt := mkSh 36 3 [(0, .sl 41), (3, .int .i64), (9, .sl 41), (10, .int .i64), (11, .int .i64)] []
def LP_slices_Concat__Card_L3 (g : C_slices_Concat__Card) (n : Nat) : LPT A := fun ps => match ps with | [.d (.sl 41 p1), .d (.int .i64 p2), .d (.sl 41 p3), .d (.int .i64 p4), .d (.int .i64 p5)] => fun K => slices_Concat__Card_L3 g n p1 p2 p3 p4 p5 (fun z0 z1 => K (.exit 0) (mkSt 36 3 [(0, .d (.sl 41 z0)), (3, .d (.int .i64 z1))] [])) | _ => fun _ => none
def sh_slices_Concat__Card_L11 : SSt := mkSh 36 3 [(6, .own 46 1), (25, .sl 41), (26, .int .i64), (27, .int .i64)] [(1, .row 46)]
def LP_slices_Concat__Card_L11 (g : C_slices_Concat__Card) (n : Nat) : LPT A := fun ps => match ps with | [.d (.sl 41 p1), .d (.int .i64 p2), .d (.int .i64 p3), .d (.sl 46 p4)] => fun K => slices_Concat__Card_L11 g n p1 p2 p3 p4 (fun z0 => K (.exit 2) (mkSt 36 3 [(6, .own 46 1)] [(1, some (.row 46 z0))])) | _ => fun _ => none
noncomputable def code_67 : Code := (Tryz.f67.body).getD .skip
noncomputable def E_slices_Concat__Card (g : C_slices_Concat__Card) : Env A := mkE [(127, SS_slices_Grow__Card_n0 g.slices_Grow__Card_n0)] [(24, [0]), (33, [2])] [(3, ⟨[0, 3, 9, 10, 11], [], [], []⟩), (11, ⟨[6, 25, 26, 27], [(6, 46, 1)], [], []⟩)] [(3, ⟨[0, 3], [], [], []⟩), (11, ⟨[6], [], [1], []⟩)] [(3, pieceOf sh_slices_Concat__Card_L3 (LP_slices_Concat__Card_L3 g g.N)), (11, pieceOf sh_slices_Concat__Card_L11 (LP_slices_Concat__Card_L11 g g.N))] [] [] [] [(127, 0)] []
theorem ct_slices_Concat__Card [Fuel] : NatTab (E_slices_Concat__Card I_slices_Concat__Card).C := ct_of (P := Tryz.prog) (T := T) (.cons ok_slices_Grow__Card_n0 .nil) (by kernel_rfl)
noncomputable def cb_slices_Concat__Card_L3 : Code := sub [1, 1, 0, 1, 0, 0] code_67
theorem s_slices_Concat__Card_L3 (g : C_slices_Concat__Card) (n : Nat) : StepOk (E_slices_Concat__Card g) g.N cb_slices_Concat__Card_L3 sh_slices_Concat__Card_L3 (LP_slices_Concat__Card_L3 g) n := by intro ps; unfold LP_slices_Concat__Card_L3; split; exact .inr fun R K => (by kernel_rfl); exact .inl fun R K => rfl
theorem lf_slices_Concat__Card_L3 [Fuel] : LoopFine (E_slices_Concat__Card I_slices_Concat__Card) NN cb_slices_Concat__Card_L3 := fine_loop sh_slices_Concat__Card_L3 (LP_slices_Concat__Card_L3 I_slices_Concat__Card) (by kernel_rfl) ct_slices_Concat__Card (cuts0 (fun _ => rfl) (by kernel_rfl)) (fun ps R K => by unfold LP_slices_Concat__Card_L3; split <;> (try unfold slices_Concat__Card_L3) <;> rfl) (s_slices_Concat__Card_L3 I_slices_Concat__Card)
noncomputable def cb_slices_Concat__Card_L11 : Code := sub [1, 1, 1, 1, 0, 1, 0, 0] code_67
theorem s_slices_Concat__Card_L11 (g : C_slices_Concat__Card) (n : Nat) : StepOk (E_slices_Concat__Card g) g.N cb_slices_Concat__Card_L11 sh_slices_Concat__Card_L11 (LP_slices_Concat__Card_L11 g) n := by intro ps; unfold LP_slices_Concat__Card_L11; split; exact .inr fun R K => (by kernel_rfl); exact .inl fun R K => rfl
theorem lf_slices_Concat__Card_L11 [Fuel] : LoopFine (E_slices_Concat__Card I_slices_Concat__Card) NN cb_slices_Concat__Card_L11 := fine_loop sh_slices_Concat__Card_L11 (LP_slices_Concat__Card_L11 I_slices_Concat__Card) (by kernel_rfl) ct_slices_Concat__Card (cuts0 (fun _ => rfl) (by kernel_rfl)) (fun ps R K => by unfold LP_slices_Concat__Card_L11; split <;> (try unfold slices_Concat__Card_L11) <;> rfl) (s_slices_Concat__Card_L11 I_slices_Concat__Card)
theorem sm_slices_Concat__Card (g : C_slices_Concat__Card) : Same (SS_slices_Concat__Card (@slices_Concat__Card_ g)) (abody (E_slices_Concat__Card g) Tryz.f67 code_67 3 [] [.arr 46] g.N) := by intro args; unfold SS_slices_Concat__Card; split; exact .inr fun R k => (by kernel_rfl); exact .inl fun R k => rfl
theorem ok_slices_Concat__Card [Fuel] : Ok 67 (SS_slices_Concat__Card (@slices_Concat__Card _)) := okF_of std (.cons ok_slices_Grow__Card_n0 .nil) ⟨rfl, rfl, by kernel_rfl, rfl, rfl, rfl⟩ (sm_slices_Concat__Card I_slices_Concat__Card) (cutsL (fun _ => rfl) (.cons lf_slices_Concat__Card_L3 (.cons lf_slices_Concat__Card_L11 .nil)) (by kernel_rfl)) Tryz.func67 (by kernel_rfl) (by kernel_rfl)
abbrev T_slices_SortFunc__Card_club_compareCards : Type 1 := List G_Card → {R : Type} → (List G_Card → Option R) → Option R
noncomputable def slices_SortFunc__Card_club_compareCards [Fuel] : T_slices_SortFunc__Card_club_compareCards := @X_sortf G_Card (@club_compareCards _)
def SS_slices_SortFunc__Card_club_compareCards (g : T_slices_SortFunc__Card_club_compareCards) : Spec A := fun args => match args with | [.arr 46 a1, .fn 69 []] => fun k => g a1 (fun z => k (.tup []) [.arr 46 z, .fn 69 []]) | _ => fun _ => none
theorem h1_slices_SortFunc__Card_club_compareCards [Fuel] (xs : List (A 46)) (R : Type) (k : IV A → List (IV A) → Option R) : SS_slices_SortFunc__Card_club_compareCards (@slices_SortFunc__Card_club_compareCards _) [.arr 46 xs, .fn 69 []] k = X_sortf (α := A 46) (@club_compareCards _) xs (fun z => k (.tup []) [.arr 46 z, .fn 69 []]) := by kernel_rfl
theorem h2_slices_SortFunc__Card_club_compareCards [Fuel] (args : List (IV A)) (R : Type) (k : IV A → List (IV A) → Option R) (h : ∀ xs : List (A 46), args ≠ [.arr 46 xs, .fn 69 []]) : SS_slices_SortFunc__Card_club_compareCards (@slices_SortFunc__Card_club_compareCards _) args k = none := by unfold SS_slices_SortFunc__Card_club_compareCards; split; exact absurd rfl (h _); rfl
theorem hc_slices_SortFunc__Card_club_compareCards [Fuel] (x y : A 46) (R : Type) (k : Int → Option R) : callOf T (SS_club_compareCards (@club_compareCards _)) 46 x y k = @club_compareCards _ x y R k := by kernel_rfl
theorem hs_slices_SortFunc__Card_club_compareCards (x : G_Card) : (enc_e46 x).all scal = true := rfl
theorem ok_slices_SortFunc__Card_club_compareCards [Fuel] : Ok 68 (SS_slices_SortFunc__Card_club_compareCards (@slices_SortFunc__Card_club_compareCards _)) := ⟨sortf_sound (tyOk Tryz.prog) (e := 46) Tryz.sortf68 Tryz.isAgg46 Tryz.sizeOf46 (fun x d hd => List.all_eq_true.1 (hs_slices_SortFunc__Card_club_compareCards x) d hd) hc_slices_SortFunc__Card_club_compareCards okd_club_compareCards.fs okd_club_compareCards.en h1_slices_SortFunc__Card_club_compareCards h2_slices_SortFunc__Card_club_compareCards, sortf_na (e := 46) h1_slices_SortFunc__Card_club_compareCards h2_slices_SortFunc__Card_club_compareCards, enters_of (fn := Tryz.f68) Tryz.func68 (by kernel_rfl) (by kernel_rfl)⟩
abbrev T_club_MergeCards : Type 1 := List G_Card → List G_Card → {R : Type} → (List G_Card → Int → Option R) → Option R
structure C_club_MergeCards where
 N : Nat
 club_CheckCards : T_club_CheckCards
 slices_Concat__Card : T_slices_Concat__Card
 slices_SortFunc__Card_club_compareCards : T_slices_SortFunc__Card_club_compareCards
 slices_Compact__Card : T_slices_Compact__Card
def club_MergeCards_L2 (g : C_club_MergeCards) : Nat → List G_Card → List G_Card → Int → Int → List (List G_Card) → {R : Type} → (List G_Card → List G_Card → Int → Option R) → (List G_Card → List G_Card → Option R) → Option R
 | 0, _, _, _, _, _, _, _, _ => none
 | n + 1, v3, v4, v5, v6, v7, _, e0, e1 => (bif (decide (v6 < v5)) then (inr v7 v6 (at_ v7 v6 fun x10 => (g.club_CheckCards x10 (fun r11 => (bif (r11 != 0) then e0 v3 v4 r11 else club_MergeCards_L2 g n v3 v4 v5 (w64 (v6 + 1)) v7 e0 e1))))) else e1 v3 v4)
def club_MergeCards_ (g : C_club_MergeCards) (a1 a2 : List G_Card) {R : Type} (k0 : List G_Card → Int → Option R) : Option R :=
 (club_MergeCards_L2 g g.N a1 a2 ([a1, a2].length : Int) 0 [a1, a2] (fun e12 e13 e14 => k0 [] e14) (fun e15 e16 => (g.slices_Concat__Card [e15, e16] (fun r17 => (g.slices_SortFunc__Card_club_compareCards r17 (fun r18 => (g.slices_Compact__Card r18 (fun r19 => (bif (decide ((r19.length : Int) > 3000)) then k0 [] 2 else k0 r19 0)))))))))
noncomputable def I_club_MergeCards [Fuel] : C_club_MergeCards := ⟨NN, @club_CheckCards _, @slices_Concat__Card _, @slices_SortFunc__Card_club_compareCards _, @slices_Compact__Card _⟩
noncomputable def club_MergeCards [Fuel] : T_club_MergeCards := @club_MergeCards_ I_club_MergeCards
def SS_club_MergeCards (g : T_club_MergeCards) : Spec A := fun args => match args with | [.d (.sl 46 a1), .d (.sl 46 a2)] => fun k => g a1 a2 (fun z0 z1 => k (.tup [.arr 46 z0, .d (.int .i64 z1)]) [.undef, .undef]) | _ => fun _ => none
def sh_club_MergeCards_L2 : SSt := mkSh 36 4 [(0, .sl 46), (1, .sl 46), (12, .own 41 0), (13, .int .i64), (14, .int .i64)] [(0, .row 41)]
def LP_club_MergeCards_L2 (g : C_club_MergeCards) (n : Nat) : LPT A := fun ps => match ps with | [.d (.sl 46 p1), .d (.sl 46 p2), .d (.int .i64 p3), .d (.int .i64 p4), .d (.sl 41 p5)] => fun K => club_MergeCards_L2 g n p1 p2 p3 p4 p5 (fun z0 z1 z2 => K .ret (mkSt 36 4 [(0, .d (.sl 46 z0)), (1, .d (.sl 46 z1)), (4, .d .nsl), (5, .d (.int .i64 z2))] [])) (fun z0 z1 => K (.exit 0) (mkSt 36 4 [(0, .d (.sl 46 z0)), (1, .d (.sl 46 z1))] [])) | _ => fun _ => none
noncomputable def code_15 : Code := (Tryz.f15.body).getD .skip
noncomputable def E_club_MergeCards (g : C_club_MergeCards) : Env A := mkE [(66, SS_club_CheckCards g.club_CheckCards), (67, SS_slices_Concat__Card g.slices_Concat__Card), (68, SS_slices_SortFunc__Card_club_compareCards g.slices_SortFunc__Card_club_compareCards), (70, SS_slices_Compact__Card g.slices_Compact__Card)] [(12, [0]), (26, [1]), (27, [2]), (31, [3])] [(2, ⟨[0, 1, 12, 13, 14], [], [0], []⟩)] [(2, ⟨[0, 1, 4, 5], [], [], []⟩)] [(2, pieceOf sh_club_MergeCards_L2 (LP_club_MergeCards_L2 g g.N))] [] [] [] [(68, 0), (70, 0)] []
theorem ct_club_MergeCards [Fuel] : NatTab (E_club_MergeCards I_club_MergeCards).C := ct_of (P := Tryz.prog) (T := T) (.cons ok_club_CheckCards (.cons ok_slices_Concat__Card (.cons ok_slices_SortFunc__Card_club_compareCards (.cons ok_slices_Compact__Card .nil)))) (by kernel_rfl)
noncomputable def cb_club_MergeCards_L2 : Code := sub [1, 0, 1, 0, 0] code_15
theorem s_club_MergeCards_L2 (g : C_club_MergeCards) (n : Nat) : StepOk (E_club_MergeCards g) g.N cb_club_MergeCards_L2 sh_club_MergeCards_L2 (LP_club_MergeCards_L2 g) n := by intro ps; unfold LP_club_MergeCards_L2; split; exact .inr fun R K => (by kernel_rfl); exact .inl fun R K => rfl
theorem lf_club_MergeCards_L2 [Fuel] : LoopFine (E_club_MergeCards I_club_MergeCards) NN cb_club_MergeCards_L2 := fine_loop sh_club_MergeCards_L2 (LP_club_MergeCards_L2 I_club_MergeCards) (by kernel_rfl) ct_club_MergeCards (cuts0 (fun _ => rfl) (by kernel_rfl)) (fun ps R K => by unfold LP_club_MergeCards_L2; split <;> (try unfold club_MergeCards_L2) <;> rfl) (s_club_MergeCards_L2 I_club_MergeCards)
theorem sm_club_MergeCards (g : C_club_MergeCards) : Same (SS_club_MergeCards (@club_MergeCards_ g)) (abody (E_club_MergeCards g) Tryz.f15 code_15 4 [] [.arr 46, .asis] g.N) := by intro args; unfold SS_club_MergeCards; split; exact .inr fun R k => (by kernel_rfl); exact .inl fun R k => rfl
theorem ok_club_MergeCards [Fuel] : Ok 15 (SS_club_MergeCards (@club_MergeCards _)) := okF_of std (.cons ok_club_CheckCards (.cons ok_slices_Concat__Card (.cons ok_slices_SortFunc__Card_club_compareCards (.cons ok_slices_Compact__Card .nil)))) ⟨rfl, rfl, by kernel_rfl, rfl, rfl, rfl⟩ (sm_club_MergeCards I_club_MergeCards) (cutsL (fun _ => rfl) (.cons lf_club_MergeCards_L2 .nil) (by kernel_rfl)) Tryz.func15 (by kernel_rfl) (by kernel_rfl)
abbrev T_club_cardsFault : Type 1 := List G_Card → Int → {R : Type} → (Int → Option R) → Option R
structure C_club_cardsFault where
 N : Nat
 kit_IsMoment : T_kit_IsMoment
 club_CheckCards : T_club_CheckCards
def club_cardsFault_ (g : C_club_cardsFault) (a1 : List G_Card) (a2 : Int) {R : Type} (k0 : Int → Option R) : Option R :=
 (g.club_CheckCards a1 (fun r3 => (bif (r3 != 0) then k0 r3 else (g.kit_IsMoment a2 (fun r4 => (bif (!r4) then k0 1 else k0 0))))))
noncomputable def I_club_cardsFault [Fuel] : C_club_cardsFault := ⟨NN, @kit_IsMoment _, @club_CheckCards _⟩
noncomputable def club_cardsFault [Fuel] : T_club_cardsFault := @club_cardsFault_ I_club_cardsFault
def SS_club_cardsFault (g : T_club_cardsFault) : Spec A := fun args => match args with | [.d (.sl 46 a1), .d (.int .i64 a2)] => fun k => g a1 a2 (fun z0 => k (.d (.int .i64 z0)) [.undef, .undef]) | _ => fun _ => none
noncomputable def code_71 : Code := (Tryz.f71.body).getD .skip
noncomputable def E_club_cardsFault (g : C_club_cardsFault) : Env A := mkE [(51, SS_kit_IsMoment g.kit_IsMoment), (66, SS_club_CheckCards g.club_CheckCards)] [] [] [] [] [] [] [] [] []
theorem sm_club_cardsFault (g : C_club_cardsFault) : Same (SS_club_cardsFault (@club_cardsFault_ g)) (abody (E_club_cardsFault g) Tryz.f71 code_71 0 [] [.asis] g.N) := by intro args; unfold SS_club_cardsFault; split; exact .inr fun R k => (by kernel_rfl); exact .inl fun R k => rfl
theorem ok_club_cardsFault [Fuel] : Ok 71 (SS_club_cardsFault (@club_cardsFault _)) := okF_of std (.cons ok_kit_IsMoment (.cons ok_club_CheckCards .nil)) ⟨rfl, rfl, by kernel_rfl, rfl, rfl, rfl⟩ (sm_club_cardsFault I_club_cardsFault) (cuts0 (fun _ => rfl) (by kernel_rfl)) Tryz.func71 (by kernel_rfl) (by kernel_rfl)
end Go.Am
