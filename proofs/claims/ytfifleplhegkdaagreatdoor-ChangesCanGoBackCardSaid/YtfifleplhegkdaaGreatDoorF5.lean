/- The functions of the program as Lean functions, each shown to be what the code computes, part 5. No condition: lemmas for the claim. -/
import Derived.Test.YtfifleplhegkdaaGreatDoorF0
import Derived.Test.YtfifleplhegkdaaGreatDoorFSh
import Derived.Test.YtfifleplhegkdaaGreatDoorF1
import Derived.Test.YtfifleplhegkdaaGreatDoorF2
import Derived.Test.YtfifleplhegkdaaGreatDoorF4
set_option linter.unusedVariables false
set_option maxRecDepth 100000
namespace Go.Am
open Go Go.Proofs
abbrev T_call_isBegin : Type 1 := List UInt8 → {R : Type} → (Bool → Option R) → Option R
structure C_call_isBegin where
 N : Nat
 call_isPlain : T_call_isPlain
def call_isBegin_ (g : C_call_isBegin) (a1 : List UInt8) {R : Type} (k0 : Bool → Option R) : Option R :=
 (g.call_isPlain a1 (fun r2 r3 => (bif r3 then (bif (decide (r2 > 0)) then k0 (decide ((a1.length : Int) ≤ 4)) else k0 false) else k0 false)))
noncomputable def I_call_isBegin [Fuel] : C_call_isBegin := ⟨NN, @call_isPlain _⟩
noncomputable def call_isBegin [Fuel] : T_call_isBegin := @call_isBegin_ I_call_isBegin
def SS_call_isBegin (g : T_call_isBegin) : Spec A := fun args => match args with | [.d (.str a1)] => fun k => g a1 (fun z0 => k (.d (.bool z0)) [.undef]) | _ => fun _ => none
noncomputable def code_160 : Code := (Tryz.f160.body).getD .skip
noncomputable def E_call_isBegin (g : C_call_isBegin) : Env A := mkE [(194, SS_call_isPlain g.call_isPlain)] [] [] [] [] [] [] [] [] []
theorem sm_call_isBegin (g : C_call_isBegin) : Same (SS_call_isBegin (@call_isBegin_ g)) (abody (E_call_isBegin g) Tryz.f160 code_160 0 [] [.asis] g.N) := by intro args; unfold SS_call_isBegin; split; exact .inr fun R k => (by kernel_rfl); exact .inl fun R k => rfl
theorem ok_call_isBegin [Fuel] : Ok 160 (SS_call_isBegin (@call_isBegin _)) := okF_of std (.cons ok_call_isPlain .nil) ⟨rfl, rfl, by kernel_rfl, rfl, rfl, rfl⟩ (sm_call_isBegin I_call_isBegin) (cuts0 (fun _ => rfl) (by kernel_rfl)) Tryz.func160 (by kernel_rfl) (by kernel_rfl)
abbrev T_call_tail : Type 1 := List UInt8 → {R : Type} → (Int → List UInt8 → Bool → Option R) → Option R
structure C_call_tail where
 N : Nat
 call_isBegin : T_call_isBegin
 call_isDigit : T_call_isDigit
def call_tail_ (g : C_call_tail) (a1 : List UInt8) {R : Type} (k0 : Int → List UInt8 → Bool → Option R) : Option R :=
 (bif (a1 == [112]) then k0 3 [] true else (bif (a1 == [109]) then k0 4 [] true else (bif (a1 == [109, 109]) then k0 5 [] true else (bif (a1 == [97, 109]) then k0 6 [] true else (bif ((a1.length : Int) == 1) then (at_ a1 0 fun x2 => (g.call_isDigit (x2.toNat : Int) (fun r3 => (bif r3 then k0 2 a1 true else (g.call_isBegin a1 (fun r4 => k0 1 a1 r4)))))) else (g.call_isBegin a1 (fun r5 => k0 1 a1 r5)))))))
noncomputable def I_call_tail [Fuel] : C_call_tail := ⟨NN, @call_isBegin _, @call_isDigit _⟩
noncomputable def call_tail [Fuel] : T_call_tail := @call_tail_ I_call_tail
def SS_call_tail (g : T_call_tail) : Spec A := fun args => match args with | [.d (.str a1)] => fun k => g a1 (fun z0 z1 z2 => k (.tup [.d (.int .i64 z0), .d (.str z1), .d (.bool z2)]) [.undef]) | _ => fun _ => none
noncomputable def code_161 : Code := (Tryz.f161.body).getD .skip
noncomputable def E_call_tail (g : C_call_tail) : Env A := mkE [(160, SS_call_isBegin g.call_isBegin), (195, SS_call_isDigit g.call_isDigit)] [] [] [] [] [] [] [] [] []
theorem sm_call_tail (g : C_call_tail) : Same (SS_call_tail (@call_tail_ g)) (abody (E_call_tail g) Tryz.f161 code_161 0 [] [.asis, .asis, .asis] g.N) := by intro args; unfold SS_call_tail; split; exact .inr fun R k => (by kernel_rfl); exact .inl fun R k => rfl
theorem ok_call_tail [Fuel] : Ok 161 (SS_call_tail (@call_tail _)) := okF_of std (.cons ok_call_isBegin (.cons ok_call_isDigit .nil)) ⟨rfl, rfl, by kernel_rfl, rfl, rfl, rfl⟩ (sm_call_tail I_call_tail) (cuts0 (fun _ => rfl) (by kernel_rfl)) Tryz.func161 (by kernel_rfl) (by kernel_rfl)
abbrev T_call_Parts : Type 1 := List UInt8 → {R : Type} → (G_Parts → Bool → Option R) → Option R
structure C_call_Parts where
 N : Nat
 strings_Cut : T_strings_Cut
 call_based : T_call_based
 call_isBegin : T_call_isBegin
 call_tail : T_call_tail
def call_Parts_ (g : C_call_Parts) (a1 : List UInt8) {R : Type} (k0 : G_Parts → Bool → Option R) : Option R :=
 (bif (decide ((a1.length : Int) > 14)) then k0 (⟨[], [], [], 0, []⟩ : G_Parts) false else (g.call_based a1 (fun r2 r3 => (bif r3 then k0 r2 true else (g.strings_Cut a1 [47] (fun r4 r5 r6 => (bif (!r6) then k0 (⟨[], [], [], 0, []⟩ : G_Parts) false else (g.call_based r5 (fun r7 r8 => (bif r8 then (g.call_isBegin r4 (fun r9 => (bif r9 then k0 (⟨r7.f_Base, r7.f_Prefix, r7.f_Suffix, 1, r4⟩ : G_Parts) true else (g.call_based r4 (fun r10 r11 => (g.call_tail r5 (fun r12 r13 r14 => (bif (!r11) then k0 (⟨[], [], [], 0, []⟩ : G_Parts) false else (bif (!r14) then k0 (⟨[], [], [], 0, []⟩ : G_Parts) false else k0 (⟨r10.f_Base, r10.f_Prefix, r10.f_Suffix, r12, r13⟩ : G_Parts) true))))))))) else (g.call_based r4 (fun r15 r16 => (g.call_tail r5 (fun r17 r18 r19 => (bif (!r16) then k0 (⟨[], [], [], 0, []⟩ : G_Parts) false else (bif (!r19) then k0 (⟨[], [], [], 0, []⟩ : G_Parts) false else k0 (⟨r15.f_Base, r15.f_Prefix, r15.f_Suffix, r17, r18⟩ : G_Parts) true))))))))))))))))
noncomputable def I_call_Parts [Fuel] : C_call_Parts := ⟨NN, @strings_Cut _, @call_based _, @call_isBegin _, @call_tail _⟩
noncomputable def call_Parts [Fuel] : T_call_Parts := @call_Parts_ I_call_Parts
def SS_call_Parts (g : T_call_Parts) : Spec A := fun args => match args with | [.d (.str a1)] => fun k => g a1 (fun z0 z1 => k (.tup [.agg [.d (.str z0.f_Base), .d (.str z0.f_Prefix), .d (.str z0.f_Suffix), .d (.int .i64 z0.f_Kind), .d (.str z0.f_Added)], .d (.bool z1)]) [.undef]) | _ => fun _ => none
noncomputable def code_133 : Code := (Tryz.f133.body).getD .skip
noncomputable def E_call_Parts (g : C_call_Parts) : Env A := mkE [(146, SS_strings_Cut g.strings_Cut), (159, SS_call_based g.call_based), (160, SS_call_isBegin g.call_isBegin), (161, SS_call_tail g.call_tail)] [(2, [0]), (4, [1]), (9, [2]), (11, [3])] [] [] [] [] [] [] [] []
theorem sm_call_Parts (g : C_call_Parts) : Same (SS_call_Parts (@call_Parts_ g)) (abody (E_call_Parts g) Tryz.f133 code_133 4 [] [.asis, .asis] g.N) := by intro args; unfold SS_call_Parts; split; exact .inr fun R k => (by kernel_rfl); exact .inl fun R k => rfl
theorem ok_call_Parts [Fuel] : Ok 133 (SS_call_Parts (@call_Parts _)) := okF_of std (.cons ok_strings_Cut (.cons ok_call_based (.cons ok_call_isBegin (.cons ok_call_tail .nil)))) ⟨rfl, rfl, by kernel_rfl, rfl, rfl, rfl⟩ (sm_call_Parts I_call_Parts) (cuts0 (fun _ => rfl) (by kernel_rfl)) Tryz.func133 (by kernel_rfl) (by kernel_rfl)
abbrev T_call_Is : Type 1 := List UInt8 → {R : Type} → (Bool → Option R) → Option R
structure C_call_Is where
 N : Nat
 call_Parts : T_call_Parts
def call_Is_ (g : C_call_Is) (a1 : List UInt8) {R : Type} (k0 : Bool → Option R) : Option R :=
 (g.call_Parts a1 (fun r2 r3 => k0 r3))
noncomputable def I_call_Is [Fuel] : C_call_Is := ⟨NN, @call_Parts _⟩
noncomputable def call_Is [Fuel] : T_call_Is := @call_Is_ I_call_Is
def SS_call_Is (g : T_call_Is) : Spec A := fun args => match args with | [.d (.str a1)] => fun k => g a1 (fun z0 => k (.d (.bool z0)) [.undef]) | _ => fun _ => none
noncomputable def code_95 : Code := (Tryz.f95.body).getD .skip
noncomputable def E_call_Is (g : C_call_Is) : Env A := mkE [(133, SS_call_Parts g.call_Parts)] [(3, [0])] [] [] [] [] [] [] [] []
theorem sm_call_Is (g : C_call_Is) : Same (SS_call_Is (@call_Is_ g)) (abody (E_call_Is g) Tryz.f95 code_95 1 [] [.asis] g.N) := by intro args; unfold SS_call_Is; split; exact .inr fun R k => (by kernel_rfl); exact .inl fun R k => rfl
theorem ok_call_Is [Fuel] : Ok 95 (SS_call_Is (@call_Is _)) := okF_of std (.cons ok_call_Parts .nil) ⟨rfl, rfl, by kernel_rfl, rfl, rfl, rfl⟩ (sm_call_Is I_call_Is) (cuts0 (fun _ => rfl) (by kernel_rfl)) Tryz.func95 (by kernel_rfl) (by kernel_rfl)
abbrev T_kit_IsName : Type 1 := List UInt8 → {R : Type} → (Bool → Option R) → Option R
structure C_kit_IsName where
 N : Nat
 kit_IsKey : T_kit_IsKey
def kit_IsName_ (g : C_kit_IsName) (a1 : List UInt8) {R : Type} (k0 : Bool → Option R) : Option R :=
 (bif (a1 == []) then k0 true else (g.kit_IsKey a1 (fun r2 => k0 r2)))
noncomputable def I_kit_IsName [Fuel] : C_kit_IsName := ⟨NN, @kit_IsKey _⟩
noncomputable def kit_IsName [Fuel] : T_kit_IsName := @kit_IsName_ I_kit_IsName
def SS_kit_IsName (g : T_kit_IsName) : Spec A := fun args => match args with | [.d (.str a1)] => fun k => g a1 (fun z0 => k (.d (.bool z0)) [.undef]) | _ => fun _ => none
noncomputable def code_119 : Code := (Tryz.f119.body).getD .skip
noncomputable def E_kit_IsName (g : C_kit_IsName) : Env A := mkE [(39, SS_kit_IsKey g.kit_IsKey)] [] [] [] [] [] [] [] [] []
theorem sm_kit_IsName (g : C_kit_IsName) : Same (SS_kit_IsName (@kit_IsName_ g)) (abody (E_kit_IsName g) Tryz.f119 code_119 0 [] [.asis] g.N) := by intro args; unfold SS_kit_IsName; split; exact .inr fun R k => (by kernel_rfl); exact .inl fun R k => rfl
theorem ok_kit_IsName [Fuel] : Ok 119 (SS_kit_IsName (@kit_IsName _)) := okF_of std (.cons ok_kit_IsKey .nil) ⟨rfl, rfl, by kernel_rfl, rfl, rfl, rfl⟩ (sm_kit_IsName I_kit_IsName) (cuts0 (fun _ => rfl) (by kernel_rfl)) Tryz.func119 (by kernel_rfl) (by kernel_rfl)
abbrev T_log_CheckContact : Type 1 := G_Contact → {R : Type} → (Int → Option R) → Option R
structure C_log_CheckContact where
 N : Nat
 kit_Outside : T_kit_Outside
 kit_IsKey : T_kit_IsKey
 kit_IsMode : T_kit_IsMode
 kit_IsMoment : T_kit_IsMoment
 call_Is : T_call_Is
 kit_IsName : T_kit_IsName
def log_CheckContact_ (g : C_log_CheckContact) (a1 : G_Contact) {R : Type} (k0 : Int → Option R) : Option R :=
 (g.kit_IsMoment a1.f_At (fun r2 => (bif (!r2) then k0 1 else (g.kit_IsMode a1.f_Mode (fun r3 => (bif (!r3) then k0 4 else (g.kit_IsKey a1.f_Band (fun r4 => (bif (!r4) then k0 5 else (g.call_Is a1.f_Call (fun r5 => (bif (!r5) then k0 3 else (g.kit_Outside a1.f_Sent 0 99999 (fun r6 => (bif r6 then k0 1 else (g.kit_Outside a1.f_Heard 0 99999 (fun r7 => (bif r7 then k0 1 else (g.kit_IsName a1.f_Gave (fun r8 => (bif (!r8) then k0 5 else (g.kit_IsName a1.f_Got (fun r9 => (bif (!r9) then k0 5 else k0 0))))))))))))))))))))))))
noncomputable def I_log_CheckContact [Fuel] : C_log_CheckContact := ⟨NN, @kit_Outside _, @kit_IsKey _, @kit_IsMode _, @kit_IsMoment _, @call_Is _, @kit_IsName _⟩
noncomputable def log_CheckContact [Fuel] : T_log_CheckContact := @log_CheckContact_ I_log_CheckContact
def SS_log_CheckContact (g : T_log_CheckContact) : Spec A := fun args => match args with | [.agg [.d (.int .i64 a1), .d (.int .i64 a2), .d (.str a3), .d (.str a4), .d (.int .i64 a5), .d (.int .i64 a6), .d (.str a7), .d (.str a8)]] => fun k => g ⟨a1, a2, a3, a4, a5, a6, a7, a8⟩ (fun z0 => k (.d (.int .i64 z0)) [.undef]) | _ => fun _ => none
noncomputable def code_84 : Code := (Tryz.f84.body).getD .skip
noncomputable def E_log_CheckContact (g : C_log_CheckContact) : Env A := mkE [(33, SS_kit_Outside g.kit_Outside), (39, SS_kit_IsKey g.kit_IsKey), (40, SS_kit_IsMode g.kit_IsMode), (41, SS_kit_IsMoment g.kit_IsMoment), (95, SS_call_Is g.call_Is), (119, SS_kit_IsName g.kit_IsName)] [(1, [0])] [] [] [] [] [] [] [] []
theorem sm_log_CheckContact (g : C_log_CheckContact) : Same (SS_log_CheckContact (@log_CheckContact_ g)) (abody (E_log_CheckContact g) Tryz.f84 code_84 1 [] [.asis] g.N) := by intro args; unfold SS_log_CheckContact; split; exact .inr fun R k => (by kernel_rfl); exact .inl fun R k => rfl
theorem ok_log_CheckContact [Fuel] : Ok 84 (SS_log_CheckContact (@log_CheckContact _)) := okF_of std (.cons ok_kit_Outside (.cons ok_kit_IsKey (.cons ok_kit_IsMode (.cons ok_kit_IsMoment (.cons ok_call_Is (.cons ok_kit_IsName .nil)))))) ⟨rfl, rfl, by kernel_rfl, rfl, rfl, rfl⟩ (sm_log_CheckContact I_log_CheckContact) (cuts0 (fun _ => rfl) (by kernel_rfl)) Tryz.func84 (by kernel_rfl) (by kernel_rfl)
abbrev T_cmp_isNaN__int : Type 1 := Int → {R : Type} → (Bool → Option R) → Option R
def cmp_isNaN__int_ (g : Nat) (a1 : Int) {R : Type} (k0 : Bool → Option R) : Option R :=
 k0 (a1 != a1)
noncomputable def cmp_isNaN__int [Fuel] : T_cmp_isNaN__int := @cmp_isNaN__int_ NN
def SS_cmp_isNaN__int (g : T_cmp_isNaN__int) : Spec A := fun args => match args with | [.d (.int .i64 a1)] => fun k => g a1 (fun z0 => k (.d (.bool z0)) [.undef]) | _ => fun _ => none
noncomputable def code_92 : Code := (Tryz.f92.body).getD .skip
noncomputable def E_cmp_isNaN__int (g : Nat) : Env A := mkE [] [] [] [] [] [] [] [] [] []
theorem sm_cmp_isNaN__int (g : Nat) : Same (SS_cmp_isNaN__int (@cmp_isNaN__int_ g)) (abody (E_cmp_isNaN__int g) Tryz.f92 code_92 0 [] [.asis] g) := by intro args; unfold SS_cmp_isNaN__int; split; exact .inr fun R k => (by kernel_rfl); exact .inl fun R k => rfl
theorem ok_cmp_isNaN__int [Fuel] : Ok 92 (SS_cmp_isNaN__int (@cmp_isNaN__int _)) := okF_of std .nil ⟨rfl, rfl, by kernel_rfl, rfl, rfl, rfl⟩ (sm_cmp_isNaN__int NN) (cuts0 (fun _ => rfl) (by kernel_rfl)) Tryz.func92 (by kernel_rfl) (by kernel_rfl)
noncomputable def Ed_cmp_isNaN__int (g : Nat) : Env A := mkED [] [] [] [] [] [] [] [] [] []
theorem smd_cmp_isNaN__int (g : Nat) : Same (SS_cmp_isNaN__int (@cmp_isNaN__int_ g)) (abody (Ed_cmp_isNaN__int g) Tryz.f92 code_92 0 [] [.asis] g) := by intro args; unfold SS_cmp_isNaN__int; split; exact .inr fun R k => (by kernel_rfl); exact .inl fun R k => rfl
theorem okd_cmp_isNaN__int [Fuel] : OkD 92 (SS_cmp_isNaN__int (@cmp_isNaN__int _)) := okF_of stdD .nil ⟨rfl, rfl, by kernel_rfl, rfl, rfl, rfl⟩ (smd_cmp_isNaN__int NN) (cuts0 (fun _ => rfl) (by kernel_rfl)) Tryz.func92 (by kernel_rfl) (by kernel_rfl)
abbrev T_cmp_Compare__int : Type 1 := Int → Int → {R : Type} → (Int → Option R) → Option R
structure C_cmp_Compare__int where
 N : Nat
 cmp_isNaN__int : T_cmp_isNaN__int
def cmp_Compare__int_ (g : C_cmp_Compare__int) (a1 a2 : Int) {R : Type} (k0 : Int → Option R) : Option R :=
 (g.cmp_isNaN__int a1 (fun r3 => (g.cmp_isNaN__int a2 (fun r4 => (bif r3 then (bif r4 then k0 0 else k0 (-1)) else (bif r4 then k0 1 else (bif (decide (a1 < a2)) then k0 (-1) else (bif (decide (a1 > a2)) then k0 1 else k0 0))))))))
noncomputable def I_cmp_Compare__int [Fuel] : C_cmp_Compare__int := ⟨NN, @cmp_isNaN__int _⟩
noncomputable def cmp_Compare__int [Fuel] : T_cmp_Compare__int := @cmp_Compare__int_ I_cmp_Compare__int
def SS_cmp_Compare__int (g : T_cmp_Compare__int) : Spec A := fun args => match args with | [.d (.int .i64 a1), .d (.int .i64 a2)] => fun k => g a1 a2 (fun z0 => k (.d (.int .i64 z0)) [.undef, .undef]) | _ => fun _ => none
noncomputable def code_60 : Code := (Tryz.f60.body).getD .skip
noncomputable def E_cmp_Compare__int (g : C_cmp_Compare__int) : Env A := mkE [(92, SS_cmp_isNaN__int g.cmp_isNaN__int)] [] [] [] [] [] [] [] [] []
theorem sm_cmp_Compare__int (g : C_cmp_Compare__int) : Same (SS_cmp_Compare__int (@cmp_Compare__int_ g)) (abody (E_cmp_Compare__int g) Tryz.f60 code_60 0 [] [.asis] g.N) := by intro args; unfold SS_cmp_Compare__int; split; exact .inr fun R k => (by kernel_rfl); exact .inl fun R k => rfl
theorem ok_cmp_Compare__int [Fuel] : Ok 60 (SS_cmp_Compare__int (@cmp_Compare__int _)) := okF_of std (.cons ok_cmp_isNaN__int .nil) ⟨rfl, rfl, by kernel_rfl, rfl, rfl, rfl⟩ (sm_cmp_Compare__int I_cmp_Compare__int) (cuts0 (fun _ => rfl) (by kernel_rfl)) Tryz.func60 (by kernel_rfl) (by kernel_rfl)
noncomputable def Ed_cmp_Compare__int (g : C_cmp_Compare__int) : Env A := mkED [(92, SS_cmp_isNaN__int g.cmp_isNaN__int)] [] [] [] [] [] [] [] [] []
theorem smd_cmp_Compare__int (g : C_cmp_Compare__int) : Same (SS_cmp_Compare__int (@cmp_Compare__int_ g)) (abody (Ed_cmp_Compare__int g) Tryz.f60 code_60 0 [] [.asis] g.N) := by intro args; unfold SS_cmp_Compare__int; split; exact .inr fun R k => (by kernel_rfl); exact .inl fun R k => rfl
theorem okd_cmp_Compare__int [Fuel] : OkD 60 (SS_cmp_Compare__int (@cmp_Compare__int _)) := okF_of stdD (.cons okd_cmp_isNaN__int .nil) ⟨rfl, rfl, by kernel_rfl, rfl, rfl, rfl⟩ (smd_cmp_Compare__int I_cmp_Compare__int) (cuts0 (fun _ => rfl) (by kernel_rfl)) Tryz.func60 (by kernel_rfl) (by kernel_rfl)
abbrev T_cmp_Or__int : Type 1 := List Int → {R : Type} → (Int → Option R) → Option R
def cmp_Or__int_L3 (g : Nat) : Nat → Int → List Int → Int → Int → {R : Type} → (Int → Int → Option R) → (Int → Option R) → Option R
 | 0, _, _, _, _, _, _, _ => none
 | n + 1, v2, v3, v4, v5, _, e0, e1 => (bif (decide (v5 < v4)) then (get_ v3 v5 fun x7 => (bif (x7 != v2) then e0 x7 v2 else cmp_Or__int_L3 g n v2 v3 v4 (w64 (v5 + 1)) e0 e1)) else e1 v2)
def cmp_Or__int_ (g : Nat) (a1 : List Int) {R : Type} (k0 : Int → Option R) : Option R :=
 (cmp_Or__int_L3 g g 0 a1 (a1.length : Int) 0 (fun e8 e9 => k0 e8) (fun e10 => k0 e10))
noncomputable def cmp_Or__int [Fuel] : T_cmp_Or__int := @cmp_Or__int_ NN
def SS_cmp_Or__int (g : T_cmp_Or__int) : Spec A := fun args => match args with | [.d (.sl 3 a1)] => fun k => g a1 (fun z0 => k (.d (.int .i64 z0)) [.undef]) | _ => fun _ => none
def sh_cmp_Or__int_L3 : SSt := mkSh 18 0 [(3, .int .i64), (6, .sl 3), (7, .int .i64), (8, .int .i64)] []
def LP_cmp_Or__int_L3 (g : Nat) (n : Nat) : LPT A := fun ps => match ps with | [.d (.int .i64 p1), .d (.sl 3 p2), .d (.int .i64 p3), .d (.int .i64 p4)] => fun K => cmp_Or__int_L3 g n p1 p2 p3 p4 (fun z0 z1 => K .ret (mkSt 18 0 [(2, .d (.int .i64 z0)), (3, .d (.int .i64 z1))] [])) (fun z0 => K (.exit 0) (mkSt 18 0 [(3, .d (.int .i64 z0))] [])) | _ => fun _ => none
noncomputable def code_88 : Code := (Tryz.f88.body).getD .skip
noncomputable def E_cmp_Or__int (g : Nat) : Env A := mkE [] [] [(3, ⟨[3, 6, 7, 8], [], [], []⟩)] [(3, ⟨[2, 3], [], [], []⟩)] [(3, pieceOf sh_cmp_Or__int_L3 (LP_cmp_Or__int_L3 g g))] [] [] [] [] []
theorem ct_cmp_Or__int [Fuel] : NatTab (E_cmp_Or__int NN).C := ct_of (P := Tryz.prog) (T := T) .nil (by kernel_rfl)
noncomputable def cb_cmp_Or__int_L3 : Code := sub [1, 1, 0, 1, 0, 0] code_88
theorem s_cmp_Or__int_L3 (g : Nat) (n : Nat) : StepOk (E_cmp_Or__int g) g cb_cmp_Or__int_L3 sh_cmp_Or__int_L3 (LP_cmp_Or__int_L3 g) n := by intro ps; unfold LP_cmp_Or__int_L3; split; exact .inr fun R K => (by kernel_rfl); exact .inl fun R K => rfl
theorem lf_cmp_Or__int_L3 [Fuel] : LoopFine (E_cmp_Or__int NN) NN cb_cmp_Or__int_L3 := fine_loop sh_cmp_Or__int_L3 (LP_cmp_Or__int_L3 NN) (by kernel_rfl) ct_cmp_Or__int (cuts0 (fun _ => rfl) (by kernel_rfl)) (fun ps R K => by unfold LP_cmp_Or__int_L3; split <;> (try unfold cmp_Or__int_L3) <;> rfl) (s_cmp_Or__int_L3 NN)
theorem sm_cmp_Or__int (g : Nat) : Same (SS_cmp_Or__int (@cmp_Or__int_ g)) (abody (E_cmp_Or__int g) Tryz.f88 code_88 0 [] [.asis] g) := by intro args; unfold SS_cmp_Or__int; split; exact .inr fun R k => (by kernel_rfl); exact .inl fun R k => rfl
theorem ok_cmp_Or__int [Fuel] : Ok 88 (SS_cmp_Or__int (@cmp_Or__int _)) := okF_of std .nil ⟨rfl, rfl, by kernel_rfl, rfl, rfl, rfl⟩ (sm_cmp_Or__int NN) (cutsL (fun _ => rfl) (.cons lf_cmp_Or__int_L3 .nil) (by kernel_rfl)) Tryz.func88 (by kernel_rfl) (by kernel_rfl)
noncomputable def Ed_cmp_Or__int (g : Nat) : Env A := mkED [] [] [(3, ⟨[3, 6, 7, 8], [], [], []⟩)] [(3, ⟨[2, 3], [], [], []⟩)] [(3, pieceOf sh_cmp_Or__int_L3 (LP_cmp_Or__int_L3 g g))] [] [] [] [] []
theorem ctd_cmp_Or__int [Fuel] : NatTab (Ed_cmp_Or__int NN).C := ct_of (P := Tryz.prog) (T := TD) .nil (by kernel_rfl)
theorem sd_cmp_Or__int_L3 (g : Nat) (n : Nat) : StepOk (Ed_cmp_Or__int g) g cb_cmp_Or__int_L3 sh_cmp_Or__int_L3 (LP_cmp_Or__int_L3 g) n := by intro ps; unfold LP_cmp_Or__int_L3; split; exact .inr fun R K => (by kernel_rfl); exact .inl fun R K => rfl
theorem lfd_cmp_Or__int_L3 [Fuel] : LoopFine (Ed_cmp_Or__int NN) NN cb_cmp_Or__int_L3 := fine_loop sh_cmp_Or__int_L3 (LP_cmp_Or__int_L3 NN) (by kernel_rfl) ctd_cmp_Or__int (cuts0 (fun _ => rfl) (by kernel_rfl)) (fun ps R K => by unfold LP_cmp_Or__int_L3; split <;> (try unfold cmp_Or__int_L3) <;> rfl) (sd_cmp_Or__int_L3 NN)
theorem smd_cmp_Or__int (g : Nat) : Same (SS_cmp_Or__int (@cmp_Or__int_ g)) (abody (Ed_cmp_Or__int g) Tryz.f88 code_88 0 [] [.asis] g) := by intro args; unfold SS_cmp_Or__int; split; exact .inr fun R k => (by kernel_rfl); exact .inl fun R k => rfl
theorem okd_cmp_Or__int [Fuel] : OkD 88 (SS_cmp_Or__int (@cmp_Or__int _)) := okF_of stdD .nil ⟨rfl, rfl, by kernel_rfl, rfl, rfl, rfl⟩ (smd_cmp_Or__int NN) (cutsL (fun _ => rfl) (.cons lfd_cmp_Or__int_L3 .nil) (by kernel_rfl)) Tryz.func88 (by kernel_rfl) (by kernel_rfl)
abbrev T_log_Compare : Type 1 := G_Contact → G_Contact → {R : Type} → (Int → Option R) → Option R
structure C_log_Compare where
 N : Nat
 cmp_Compare__int : T_cmp_Compare__int
 cmp_Or__int : T_cmp_Or__int
 strings_Compare : T_strings_Compare
def log_Compare_ (g : C_log_Compare) (a1 a2 : G_Contact) {R : Type} (k0 : Int → Option R) : Option R :=
 (g.cmp_Compare__int a1.f_At a2.f_At (fun r3 => (g.strings_Compare a1.f_Call a2.f_Call (fun r4 => (g.strings_Compare a1.f_Band a2.f_Band (fun r5 => (g.cmp_Compare__int a1.f_Mode a2.f_Mode (fun r6 => (g.cmp_Or__int [r3, r4, r5, r6] (fun r7 => k0 r7))))))))))
noncomputable def I_log_Compare [Fuel] : C_log_Compare := ⟨NN, @cmp_Compare__int _, @cmp_Or__int _, @strings_Compare _⟩
noncomputable def log_Compare [Fuel] : T_log_Compare := @log_Compare_ I_log_Compare
def SS_log_Compare (g : T_log_Compare) : Spec A := fun args => match args with | [.agg [.d (.int .i64 a1), .d (.int .i64 a2), .d (.str a3), .d (.str a4), .d (.int .i64 a5), .d (.int .i64 a6), .d (.str a7), .d (.str a8)], .agg [.d (.int .i64 a9), .d (.int .i64 a10), .d (.str a11), .d (.str a12), .d (.int .i64 a13), .d (.int .i64 a14), .d (.str a15), .d (.str a16)]] => fun k => g ⟨a1, a2, a3, a4, a5, a6, a7, a8⟩ ⟨a9, a10, a11, a12, a13, a14, a15, a16⟩ (fun z0 => k (.d (.int .i64 z0)) [.undef, .undef]) | _ => fun _ => none
noncomputable def code_56 : Code := (Tryz.f56.body).getD .skip
noncomputable def E_log_Compare (g : C_log_Compare) : Env A := mkE [(60, SS_cmp_Compare__int g.cmp_Compare__int), (88, SS_cmp_Or__int g.cmp_Or__int), (89, SS_strings_Compare g.strings_Compare)] [(2, [0]), (3, [1]), (25, [2])] [] [] [] [] [] [] [] []
theorem sm_log_Compare (g : C_log_Compare) : Same (SS_log_Compare (@log_Compare_ g)) (abody (E_log_Compare g) Tryz.f56 code_56 3 [] [.asis] g.N) := by intro args; unfold SS_log_Compare; split; exact .inr fun R k => (by kernel_rfl); exact .inl fun R k => rfl
theorem ok_log_Compare [Fuel] : Ok 56 (SS_log_Compare (@log_Compare _)) := okF_of std (.cons ok_cmp_Compare__int (.cons ok_cmp_Or__int (.cons ok_strings_Compare .nil))) ⟨rfl, rfl, by kernel_rfl, rfl, rfl, rfl⟩ (sm_log_Compare I_log_Compare) (cuts0 (fun _ => rfl) (by kernel_rfl)) Tryz.func56 (by kernel_rfl) (by kernel_rfl)
noncomputable def Ed_log_Compare (g : C_log_Compare) : Env A := mkED [(60, SS_cmp_Compare__int g.cmp_Compare__int), (88, SS_cmp_Or__int g.cmp_Or__int), (89, SS_strings_Compare g.strings_Compare)] [(2, [0]), (3, [1]), (25, [2])] [] [] [] [] [] [] [] []
theorem smd_log_Compare (g : C_log_Compare) : Same (SS_log_Compare (@log_Compare_ g)) (abody (Ed_log_Compare g) Tryz.f56 code_56 3 [] [.asis] g.N) := by intro args; unfold SS_log_Compare; split; exact .inr fun R k => (by kernel_rfl); exact .inl fun R k => rfl
theorem okd_log_Compare [Fuel] : OkD 56 (SS_log_Compare (@log_Compare _)) := okF_of stdD (.cons okd_cmp_Compare__int (.cons okd_cmp_Or__int (.cons okd_strings_Compare .nil))) ⟨rfl, rfl, by kernel_rfl, rfl, rfl, rfl⟩ (smd_log_Compare I_log_Compare) (cuts0 (fun _ => rfl) (by kernel_rfl)) Tryz.func56 (by kernel_rfl) (by kernel_rfl)
abbrev T_log_CheckLog : Type 1 := List G_Contact → {R : Type} → (Int → Option R) → Option R
structure C_log_CheckLog where
 N : Nat
 log_Compare : T_log_Compare
 log_CheckContact : T_log_CheckContact
def log_CheckLog_L4 (g : C_log_CheckLog) : Nat → List G_Contact → List G_Contact → Int → Int → {R : Type} → (Int → Option R) → Option R → Option R
 | 0, _, _, _, _, _, _, _ => none
 | n + 1, v2, v3, v4, v5, _, e0, e1 => (bif (decide (v5 < v4)) then (get_ v3 v5 fun x10 => (g.log_CheckContact x10 (fun r11 => (bif (r11 != 0) then e0 r11 else (bif (decide (v5 > 0)) then (get_ v2 (w64 (v5 - 1)) fun x12 => (g.log_Compare x12 x10 (fun r13 => (bif (decide (r13 ≥ 0)) then e0 7 else log_CheckLog_L4 g n v2 v3 v4 (w64 (v5 + 1)) e0 e1)))) else log_CheckLog_L4 g n v2 v3 v4 (w64 (v5 + 1)) e0 e1))))) else e1)
def log_CheckLog_ (g : C_log_CheckLog) (a1 : List G_Contact) {R : Type} (k0 : Int → Option R) : Option R :=
 (bif (decide ((a1.length : Int) > 2000)) then k0 2 else (log_CheckLog_L4 g g.N a1 a1 (a1.length : Int) 0 (fun e14 => k0 e14) (k0 0)))
noncomputable def I_log_CheckLog [Fuel] : C_log_CheckLog := ⟨NN, @log_Compare _, @log_CheckContact _⟩
noncomputable def log_CheckLog [Fuel] : T_log_CheckLog := @log_CheckLog_ I_log_CheckLog
def SS_log_CheckLog (g : T_log_CheckLog) : Spec A := fun args => match args with | [.d (.sl 56 a1)] => fun k => g a1 (fun z0 => k (.d (.int .i64 z0)) [.undef]) | _ => fun _ => none
def sh_log_CheckLog_L4 : SSt := mkSh 34 1 [(0, .sl 56), (9, .sl 56), (10, .int .i64), (11, .int .i64)] []
def LP_log_CheckLog_L4 (g : C_log_CheckLog) (n : Nat) : LPT A := fun ps => match ps with | [.d (.sl 56 p1), .d (.sl 56 p2), .d (.int .i64 p3), .d (.int .i64 p4)] => fun K => log_CheckLog_L4 g n p1 p2 p3 p4 (fun z0 => K .ret (mkSt 34 1 [(2, .d (.int .i64 z0))] [])) (K (.exit 0) (mkSt 34 1 [] [])) | _ => fun _ => none
noncomputable def code_51 : Code := (Tryz.f51.body).getD .skip
noncomputable def E_log_CheckLog (g : C_log_CheckLog) : Env A := mkE [(56, SS_log_Compare g.log_Compare), (84, SS_log_CheckContact g.log_CheckContact)] [(4, [0])] [(4, ⟨[0, 9, 10, 11], [], [], []⟩)] [(4, ⟨[2], [], [], []⟩)] [(4, pieceOf sh_log_CheckLog_L4 (LP_log_CheckLog_L4 g g.N))] [] [] [] [] []
theorem ct_log_CheckLog [Fuel] : NatTab (E_log_CheckLog I_log_CheckLog).C := ct_of (P := Tryz.prog) (T := T) (.cons ok_log_Compare (.cons ok_log_CheckContact .nil)) (by kernel_rfl)
noncomputable def cb_log_CheckLog_L4 : Code := sub [1, 1, 0, 1, 0, 0] code_51
theorem s_log_CheckLog_L4 (g : C_log_CheckLog) (n : Nat) : StepOk (E_log_CheckLog g) g.N cb_log_CheckLog_L4 sh_log_CheckLog_L4 (LP_log_CheckLog_L4 g) n := by intro ps; unfold LP_log_CheckLog_L4; split; exact .inr fun R K => (by kernel_rfl); exact .inl fun R K => rfl
theorem lf_log_CheckLog_L4 [Fuel] : LoopFine (E_log_CheckLog I_log_CheckLog) NN cb_log_CheckLog_L4 := fine_loop sh_log_CheckLog_L4 (LP_log_CheckLog_L4 I_log_CheckLog) (by kernel_rfl) ct_log_CheckLog (cuts0 (fun _ => rfl) (by kernel_rfl)) (fun ps R K => by unfold LP_log_CheckLog_L4; split <;> (try unfold log_CheckLog_L4) <;> rfl) (s_log_CheckLog_L4 I_log_CheckLog)
theorem sm_log_CheckLog (g : C_log_CheckLog) : Same (SS_log_CheckLog (@log_CheckLog_ g)) (abody (E_log_CheckLog g) Tryz.f51 code_51 1 [] [.asis] g.N) := by intro args; unfold SS_log_CheckLog; split; exact .inr fun R k => (by kernel_rfl); exact .inl fun R k => rfl
theorem ok_log_CheckLog [Fuel] : Ok 51 (SS_log_CheckLog (@log_CheckLog _)) := okF_of std (.cons ok_log_Compare (.cons ok_log_CheckContact .nil)) ⟨rfl, rfl, by kernel_rfl, rfl, rfl, rfl⟩ (sm_log_CheckLog I_log_CheckLog) (cutsL (fun _ => rfl) (.cons lf_log_CheckLog_L4 .nil) (by kernel_rfl)) Tryz.func51 (by kernel_rfl) (by kernel_rfl)
abbrev T_call_BaseOf : Type 1 := List UInt8 → {R : Type} → (List UInt8 → Option R) → Option R
structure C_call_BaseOf where
 N : Nat
 call_Parts : T_call_Parts
def call_BaseOf_ (g : C_call_BaseOf) (a1 : List UInt8) {R : Type} (k0 : List UInt8 → Option R) : Option R :=
 (g.call_Parts a1 (fun r2 r3 => k0 r2.f_Base))
noncomputable def I_call_BaseOf [Fuel] : C_call_BaseOf := ⟨NN, @call_Parts _⟩
noncomputable def call_BaseOf [Fuel] : T_call_BaseOf := @call_BaseOf_ I_call_BaseOf
def SS_call_BaseOf (g : T_call_BaseOf) : Spec A := fun args => match args with | [.d (.str a1)] => fun k => g a1 (fun z0 => k (.d (.str z0)) [.undef]) | _ => fun _ => none
noncomputable def code_99 : Code := (Tryz.f99.body).getD .skip
noncomputable def E_call_BaseOf (g : C_call_BaseOf) : Env A := mkE [(133, SS_call_Parts g.call_Parts)] [(3, [0])] [] [] [] [] [] [] [] []
theorem sm_call_BaseOf (g : C_call_BaseOf) : Same (SS_call_BaseOf (@call_BaseOf_ g)) (abody (E_call_BaseOf g) Tryz.f99 code_99 1 [] [.asis] g.N) := by intro args; unfold SS_call_BaseOf; split; exact .inr fun R k => (by kernel_rfl); exact .inl fun R k => rfl
theorem ok_call_BaseOf [Fuel] : Ok 99 (SS_call_BaseOf (@call_BaseOf _)) := okF_of std (.cons ok_call_Parts .nil) ⟨rfl, rfl, by kernel_rfl, rfl, rfl, rfl⟩ (sm_call_BaseOf I_call_BaseOf) (cuts0 (fun _ => rfl) (by kernel_rfl)) Tryz.func99 (by kernel_rfl) (by kernel_rfl)
abbrev T_log_dupes : Type 1 := List G_Contact → {R : Type} → (List Int → Option R) → Option R
structure C_log_dupes where
 N : Nat
 call_BaseOf : T_call_BaseOf
def log_dupes_L4 (g : C_log_dupes) : Nat → List G_Contact → Int → Int → List (G_log_worked × Bool) → List Int → {R : Type} → (List Int → Option R) → Option R
 | 0, _, _, _, _, _, _, _ => none
 | n + 1, v2, v3, v4, v5, v6, _, e0 => (bif (decide (v4 < v3)) then (get_ v2 v4 fun x9 => (g.call_BaseOf x9.f_Call (fun r10 => (bif ((mget_log_worked_bool (⟨r10, x9.f_Band, x9.f_Mode⟩ : G_log_worked) v5).getD false) then (bif (decide ((v6.length + [v4].length) * 8 ≤ roomBytes')) then log_dupes_L4 g n v2 v3 (w64 (v4 + 1)) (mset_log_worked_bool (⟨r10, x9.f_Band, x9.f_Mode⟩ : G_log_worked) true v5) (v6 ++ [v4]) e0 else none) else log_dupes_L4 g n v2 v3 (w64 (v4 + 1)) (mset_log_worked_bool (⟨r10, x9.f_Band, x9.f_Mode⟩ : G_log_worked) true v5) v6 e0)))) else e0 v6)
def log_dupes_ (g : C_log_dupes) (a1 : List G_Contact) {R : Type} (k0 : List Int → Option R) : Option R :=
 (log_dupes_L4 g g.N a1 (a1.length : Int) 0 [] [] (fun e11 => k0 e11))
noncomputable def I_log_dupes [Fuel] : C_log_dupes := ⟨NN, @call_BaseOf _⟩
noncomputable def log_dupes [Fuel] : T_log_dupes := @log_dupes_ I_log_dupes
def SS_log_dupes (g : T_log_dupes) : Spec A := fun args => match args with | [.d (.sl 56 a1)] => fun k => g a1 (fun z0 => k (.arr 3 z0) [.undef]) | _ => fun _ => none
def sh_log_dupes_L4 : SSt := mkSh 35 6 [(3, .mp 0), (4, .own 3 1), (9, .sl 56), (10, .int .i64), (11, .int .i64)] [(0, .mp 142 4), (1, .row 3)]
def LP_log_dupes_L4 (g : C_log_dupes) (n : Nat) : LPT A := fun ps => match ps with | [.d (.sl 56 p1), .d (.int .i64 p2), .d (.int .i64 p3), .mp 142 4 p4, .d (.sl 3 p5)] => fun K => log_dupes_L4 g n p1 p2 p3 p4 p5 (fun z0 => K (.exit 0) (mkSt 35 6 [(4, .own 3 1)] [(1, some (.row 3 z0))])) | _ => fun _ => none
noncomputable def code_66 : Code := (Tryz.f66.body).getD .skip
noncomputable def E_log_dupes (g : C_log_dupes) : Env A := mkE [(99, SS_call_BaseOf g.call_BaseOf)] [(6, [2]), (7, [3]), (8, [0]), (29, [4]), (30, [5])] [(4, ⟨[3, 4, 9, 10, 11], [(4, 3, 1)], [0], []⟩)] [(4, ⟨[4], [], [1], []⟩)] [(4, pieceOf sh_log_dupes_L4 (LP_log_dupes_L4 g g.N))] [] [] [] [] []
theorem ct_log_dupes [Fuel] : NatTab (E_log_dupes I_log_dupes).C := ct_of (P := Tryz.prog) (T := T) (.cons ok_call_BaseOf .nil) (by kernel_rfl)
noncomputable def cb_log_dupes_L4 : Code := sub [1, 1, 1, 0, 1, 0, 0] code_66
theorem s_log_dupes_L4 (g : C_log_dupes) (n : Nat) : StepOk (E_log_dupes g) g.N cb_log_dupes_L4 sh_log_dupes_L4 (LP_log_dupes_L4 g) n := by intro ps; unfold LP_log_dupes_L4; split; exact .inr fun R K => (by kernel_rfl); exact .inl fun R K => rfl
theorem lf_log_dupes_L4 [Fuel] : LoopFine (E_log_dupes I_log_dupes) NN cb_log_dupes_L4 := fine_loop sh_log_dupes_L4 (LP_log_dupes_L4 I_log_dupes) (by kernel_rfl) ct_log_dupes (cuts0 (fun _ => rfl) (by kernel_rfl)) (fun ps R K => by unfold LP_log_dupes_L4; split <;> (try unfold log_dupes_L4) <;> rfl) (s_log_dupes_L4 I_log_dupes)
theorem sm_log_dupes (g : C_log_dupes) : Same (SS_log_dupes (@log_dupes_ g)) (abody (E_log_dupes g) Tryz.f66 code_66 6 [] [.arr 3] g.N) := by intro args; unfold SS_log_dupes; split; exact .inr fun R k => (by kernel_rfl); exact .inl fun R k => rfl
theorem ok_log_dupes [Fuel] : Ok 66 (SS_log_dupes (@log_dupes _)) := okF_of std (.cons ok_call_BaseOf .nil) ⟨rfl, rfl, by kernel_rfl, rfl, rfl, rfl⟩ (sm_log_dupes I_log_dupes) (cutsL (fun _ => rfl) (.cons lf_log_dupes_L4 .nil) (by kernel_rfl)) Tryz.func66 (by kernel_rfl) (by kernel_rfl)
abbrev T_log_Dupes : Type 1 := List G_Contact → {R : Type} → (List Int → Int → Option R) → Option R
structure C_log_Dupes where
 N : Nat
 log_CheckLog : T_log_CheckLog
 log_dupes : T_log_dupes
def log_Dupes_ (g : C_log_Dupes) (a1 : List G_Contact) {R : Type} (k0 : List Int → Int → Option R) : Option R :=
 (g.log_CheckLog a1 (fun r2 => (bif (r2 != 0) then k0 [] r2 else (g.log_dupes a1 (fun r3 => k0 r3 0)))))
noncomputable def I_log_Dupes [Fuel] : C_log_Dupes := ⟨NN, @log_CheckLog _, @log_dupes _⟩
noncomputable def log_Dupes [Fuel] : T_log_Dupes := @log_Dupes_ I_log_Dupes
def SS_log_Dupes (g : T_log_Dupes) : Spec A := fun args => match args with | [.d (.sl 56 a1)] => fun k => g a1 (fun z0 z1 => k (.tup [.arr 3 z0, .d (.int .i64 z1)]) [.undef]) | _ => fun _ => none
noncomputable def code_35 : Code := (Tryz.f35.body).getD .skip
noncomputable def E_log_Dupes (g : C_log_Dupes) : Env A := mkE [(51, SS_log_CheckLog g.log_CheckLog), (66, SS_log_dupes g.log_dupes)] [(11, [0])] [] [] [] [] [] [] [] []
theorem sm_log_Dupes (g : C_log_Dupes) : Same (SS_log_Dupes (@log_Dupes_ g)) (abody (E_log_Dupes g) Tryz.f35 code_35 1 [] [.arr 3, .asis] g.N) := by intro args; unfold SS_log_Dupes; split; exact .inr fun R k => (by kernel_rfl); exact .inl fun R k => rfl
theorem ok_log_Dupes [Fuel] : Ok 35 (SS_log_Dupes (@log_Dupes _)) := okF_of std (.cons ok_log_CheckLog (.cons ok_log_dupes .nil)) ⟨rfl, rfl, by kernel_rfl, rfl, rfl, rfl⟩ (sm_log_Dupes I_log_Dupes) (cuts0 (fun _ => rfl) (by kernel_rfl)) Tryz.func35 (by kernel_rfl) (by kernel_rfl)
abbrev T_band_modesFault : Type 1 := List Int → {R : Type} → (Int → Option R) → Option R
structure C_band_modesFault where
 N : Nat
 kit_IsMode : T_kit_IsMode
def band_modesFault_L4 (g : C_band_modesFault) : Nat → List Int → List Int → Int → Int → {R : Type} → (Int → Option R) → Option R → Option R
 | 0, _, _, _, _, _, _, _ => none
 | n + 1, v2, v3, v4, v5, _, e0, e1 => (bif (decide (v5 < v4)) then (get_ v3 v5 fun x9 => (g.kit_IsMode x9 (fun r10 => (bif (!r10) then e0 4 else (bif (decide (v5 > 0)) then (get_ v2 (w64 (v5 - 1)) fun x11 => (bif (decide (x9 ≤ x11)) then e0 7 else band_modesFault_L4 g n v2 v3 v4 (w64 (v5 + 1)) e0 e1)) else band_modesFault_L4 g n v2 v3 v4 (w64 (v5 + 1)) e0 e1))))) else e1)
def band_modesFault_ (g : C_band_modesFault) (a1 : List Int) {R : Type} (k0 : Int → Option R) : Option R :=
 (bif ((a1.length : Int) == 0) then k0 8 else (band_modesFault_L4 g g.N a1 a1 (a1.length : Int) 0 (fun e12 => k0 e12) (k0 0)))
noncomputable def I_band_modesFault [Fuel] : C_band_modesFault := ⟨NN, @kit_IsMode _⟩
noncomputable def band_modesFault [Fuel] : T_band_modesFault := @band_modesFault_ I_band_modesFault
def SS_band_modesFault (g : T_band_modesFault) : Spec A := fun args => match args with | [.d (.sl 3 a1)] => fun k => g a1 (fun z0 => k (.d (.int .i64 z0)) [.undef]) | _ => fun _ => none
def sh_band_modesFault_L4 : SSt := mkSh 30 0 [(0, .sl 3), (8, .sl 3), (9, .int .i64), (10, .int .i64)] []
def LP_band_modesFault_L4 (g : C_band_modesFault) (n : Nat) : LPT A := fun ps => match ps with | [.d (.sl 3 p1), .d (.sl 3 p2), .d (.int .i64 p3), .d (.int .i64 p4)] => fun K => band_modesFault_L4 g n p1 p2 p3 p4 (fun z0 => K .ret (mkSt 30 0 [(2, .d (.int .i64 z0))] [])) (K (.exit 0) (mkSt 30 0 [] [])) | _ => fun _ => none
noncomputable def code_71 : Code := (Tryz.f71.body).getD .skip
noncomputable def E_band_modesFault (g : C_band_modesFault) : Env A := mkE [(40, SS_kit_IsMode g.kit_IsMode)] [] [(4, ⟨[0, 8, 9, 10], [], [], []⟩)] [(4, ⟨[2], [], [], []⟩)] [(4, pieceOf sh_band_modesFault_L4 (LP_band_modesFault_L4 g g.N))] [] [] [] [] []
theorem ct_band_modesFault [Fuel] : NatTab (E_band_modesFault I_band_modesFault).C := ct_of (P := Tryz.prog) (T := T) (.cons ok_kit_IsMode .nil) (by kernel_rfl)
noncomputable def cb_band_modesFault_L4 : Code := sub [1, 1, 0, 1, 0, 0] code_71
theorem s_band_modesFault_L4 (g : C_band_modesFault) (n : Nat) : StepOk (E_band_modesFault g) g.N cb_band_modesFault_L4 sh_band_modesFault_L4 (LP_band_modesFault_L4 g) n := by intro ps; unfold LP_band_modesFault_L4; split; exact .inr fun R K => (by kernel_rfl); exact .inl fun R K => rfl
theorem lf_band_modesFault_L4 [Fuel] : LoopFine (E_band_modesFault I_band_modesFault) NN cb_band_modesFault_L4 := fine_loop sh_band_modesFault_L4 (LP_band_modesFault_L4 I_band_modesFault) (by kernel_rfl) ct_band_modesFault (cuts0 (fun _ => rfl) (by kernel_rfl)) (fun ps R K => by unfold LP_band_modesFault_L4; split <;> (try unfold band_modesFault_L4) <;> rfl) (s_band_modesFault_L4 I_band_modesFault)
theorem sm_band_modesFault (g : C_band_modesFault) : Same (SS_band_modesFault (@band_modesFault_ g)) (abody (E_band_modesFault g) Tryz.f71 code_71 0 [] [.asis] g.N) := by intro args; unfold SS_band_modesFault; split; exact .inr fun R k => (by kernel_rfl); exact .inl fun R k => rfl
theorem ok_band_modesFault [Fuel] : Ok 71 (SS_band_modesFault (@band_modesFault _)) := okF_of std (.cons ok_kit_IsMode .nil) ⟨rfl, rfl, by kernel_rfl, rfl, rfl, rfl⟩ (sm_band_modesFault I_band_modesFault) (cutsL (fun _ => rfl) (.cons lf_band_modesFault_L4 .nil) (by kernel_rfl)) Tryz.func71 (by kernel_rfl) (by kernel_rfl)
abbrev T_kit_IsTime : Type 1 := G_Window → {R : Type} → (Bool → Option R) → Option R
def kit_IsTime_ (g : Nat) (a1 : G_Window) {R : Type} (k0 : Bool → Option R) : Option R :=
 (bif (decide (a1.f_From ≥ 0)) then (bif (decide (a1.f_From < a1.f_To)) then k0 (decide (a1.f_To ≤ 345686400000)) else k0 false) else k0 false)
noncomputable def kit_IsTime [Fuel] : T_kit_IsTime := @kit_IsTime_ NN
def SS_kit_IsTime (g : T_kit_IsTime) : Spec A := fun args => match args with | [.agg [.d (.int .i64 a1), .d (.int .i64 a2)]] => fun k => g ⟨a1, a2⟩ (fun z0 => k (.d (.bool z0)) [.undef]) | _ => fun _ => none
noncomputable def code_72 : Code := (Tryz.f72.body).getD .skip
noncomputable def E_kit_IsTime (g : Nat) : Env A := mkE [] [(1, [0])] [] [] [] [] [] [] [] []
theorem sm_kit_IsTime (g : Nat) : Same (SS_kit_IsTime (@kit_IsTime_ g)) (abody (E_kit_IsTime g) Tryz.f72 code_72 1 [] [.asis] g) := by intro args; unfold SS_kit_IsTime; split; exact .inr fun R k => (by kernel_rfl); exact .inl fun R k => rfl
theorem ok_kit_IsTime [Fuel] : Ok 72 (SS_kit_IsTime (@kit_IsTime _)) := okF_of std .nil ⟨rfl, rfl, by kernel_rfl, rfl, rfl, rfl⟩ (sm_kit_IsTime NN) (cuts0 (fun _ => rfl) (by kernel_rfl)) Tryz.func72 (by kernel_rfl) (by kernel_rfl)
abbrev T_band_compareSegments : Type 1 := G_Segment → G_Segment → {R : Type} → (Int → Option R) → Option R
structure C_band_compareSegments where
 N : Nat
 cmp_Compare__int : T_cmp_Compare__int
 cmp_Or__int : T_cmp_Or__int
 strings_Compare : T_strings_Compare
def band_compareSegments_ (g : C_band_compareSegments) (a1 a2 : G_Segment) {R : Type} (k0 : Int → Option R) : Option R :=
 (g.strings_Compare a1.f_Class a2.f_Class (fun r3 => (g.cmp_Compare__int a1.f_Low a2.f_Low (fun r4 => (g.cmp_Compare__int a1.f_High a2.f_High (fun r5 => (g.cmp_Compare__int a1.f_Time.f_From a2.f_Time.f_From (fun r6 => (g.cmp_Or__int [r3, r4, r5, r6] (fun r7 => k0 r7))))))))))
noncomputable def I_band_compareSegments [Fuel] : C_band_compareSegments := ⟨NN, @cmp_Compare__int _, @cmp_Or__int _, @strings_Compare _⟩
noncomputable def band_compareSegments [Fuel] : T_band_compareSegments := @band_compareSegments_ I_band_compareSegments
def SS_band_compareSegments (g : T_band_compareSegments) : Spec A := fun args => match args with | [.agg [.d (.str a1), .d (.int .i64 a2), .d (.int .i64 a3), .d (.sl 3 a4), .d (.int .i64 a5), .d (.int .i64 a6)], .agg [.d (.str a7), .d (.int .i64 a8), .d (.int .i64 a9), .d (.sl 3 a10), .d (.int .i64 a11), .d (.int .i64 a12)]] => fun k => g ⟨a1, a2, a3, a4, ⟨a5, a6⟩⟩ ⟨a7, a8, a9, a10, ⟨a11, a12⟩⟩ (fun z0 => k (.d (.int .i64 z0)) [.undef, .undef]) | _ => fun _ => none
noncomputable def code_73 : Code := (Tryz.f73.body).getD .skip
noncomputable def E_band_compareSegments (g : C_band_compareSegments) : Env A := mkE [(60, SS_cmp_Compare__int g.cmp_Compare__int), (88, SS_cmp_Or__int g.cmp_Or__int), (89, SS_strings_Compare g.strings_Compare)] [(2, [0]), (3, [1]), (27, [2])] [] [] [] [] [] [] [] []
theorem sm_band_compareSegments (g : C_band_compareSegments) : Same (SS_band_compareSegments (@band_compareSegments_ g)) (abody (E_band_compareSegments g) Tryz.f73 code_73 3 [] [.asis] g.N) := by intro args; unfold SS_band_compareSegments; split; exact .inr fun R k => (by kernel_rfl); exact .inl fun R k => rfl
theorem ok_band_compareSegments [Fuel] : Ok 73 (SS_band_compareSegments (@band_compareSegments _)) := okF_of std (.cons ok_cmp_Compare__int (.cons ok_cmp_Or__int (.cons ok_strings_Compare .nil))) ⟨rfl, rfl, by kernel_rfl, rfl, rfl, rfl⟩ (sm_band_compareSegments I_band_compareSegments) (cuts0 (fun _ => rfl) (by kernel_rfl)) Tryz.func73 (by kernel_rfl) (by kernel_rfl)
end Go.Am
