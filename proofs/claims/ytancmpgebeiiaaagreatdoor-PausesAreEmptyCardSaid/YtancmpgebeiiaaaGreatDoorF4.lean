/- The functions of the program as Lean functions, each shown to be what the code computes, part 4. No condition: lemmas for the claim. -/
import Derived.Test.YtancmpgebeiiaaaGreatDoorF0
import Derived.Test.YtancmpgebeiiaaaGreatDoorFSh
import Derived.Test.YtancmpgebeiiaaaGreatDoorF1
import Derived.Test.YtancmpgebeiiaaaGreatDoorF2
import Derived.Test.YtancmpgebeiiaaaGreatDoorF3
set_option linter.unusedVariables false
set_option maxRecDepth 100000
namespace Go.Am
open Go Go.Proofs
abbrev T_call_isDigit : Type 1 := Int → {R : Type} → (Bool → Option R) → Option R
def call_isDigit_ (g : Nat) (a1 : Int) {R : Type} (k0 : Bool → Option R) : Option R :=
 (bif (decide (a1 ≥ 48)) then k0 (decide (a1 ≤ 57)) else k0 false)
noncomputable def call_isDigit [Fuel] : T_call_isDigit := @call_isDigit_ NN
def SS_call_isDigit (g : T_call_isDigit) : Spec A := fun args => match args with | [.d (.int .u8 a1)] => fun k => g a1 (fun z0 => k (.d (.bool z0)) [.undef]) | _ => fun _ => none
noncomputable def code_144 : Code := (Tryz.f144.body).getD .skip
noncomputable def E_call_isDigit (g : Nat) : Env A := mkE [] [] [] [] [] [] [] [] [] []
theorem sm_call_isDigit (g : Nat) : Same (SS_call_isDigit (@call_isDigit_ g)) (abody (E_call_isDigit g) Tryz.f144 code_144 0 [] [.asis] g) := by intro args; unfold SS_call_isDigit; split; exact .inr fun R k => (by kernel_rfl); exact .inl fun R k => rfl
theorem ok_call_isDigit [Fuel] : Ok 144 (SS_call_isDigit (@call_isDigit _)) := okF_of std .nil ⟨rfl, rfl, by kernel_rfl, rfl, rfl, rfl⟩ (sm_call_isDigit NN) (cuts0 (fun _ => rfl) (by kernel_rfl)) Tryz.func144 (by kernel_rfl) (by kernel_rfl)
abbrev T_call_isPlain : Type 1 := List UInt8 → {R : Type} → (Int → Bool → Option R) → Option R
structure C_call_isPlain where
 N : Nat
 call_isDigit : T_call_isDigit
 call_isLetter : T_call_isLetter
def call_isPlain_L2 (g : C_call_isPlain) : Nat → List UInt8 → Int → Int → Int → {R : Type} → (Int → Bool → Option R) → (Int → Option R) → Option R
 | 0, _, _, _, _, _, _, _ => none
 | n + 1, v2, v3, v4, v5, _, e0, e1 => (bif (decide (v5 < v4)) then (get_ v2 v5 fun x10 => (g.call_isLetter (x10.toNat : Int) (fun r11 => (bif r11 then call_isPlain_L2 g n v2 (w64 (v3 + 1)) v4 (w64 (v5 + 1)) e0 e1 else (get_ v2 v5 fun x12 => (g.call_isDigit (x12.toNat : Int) (fun r13 => (bif (!r13) then e0 0 false else call_isPlain_L2 g n v2 v3 v4 (w64 (v5 + 1)) e0 e1)))))))) else e1 v3)
def call_isPlain_ (g : C_call_isPlain) (a1 : List UInt8) {R : Type} (k0 : Int → Bool → Option R) : Option R :=
 (call_isPlain_L2 g g.N a1 0 (a1.length : Int) 0 (fun e14 e15 => k0 e14 e15) (fun e16 => k0 e16 true))
noncomputable def I_call_isPlain [Fuel] : C_call_isPlain := ⟨NN, @call_isDigit _, @call_isLetter _⟩
noncomputable def call_isPlain [Fuel] : T_call_isPlain := @call_isPlain_ I_call_isPlain
def SS_call_isPlain (g : T_call_isPlain) : Spec A := fun args => match args with | [.d (.str a1)] => fun k => g a1 (fun z0 z1 => k (.tup [.d (.int .i64 z0), .d (.bool z1)]) [.undef]) | _ => fun _ => none
def sh_call_isPlain_L2 : SSt := mkSh 25 0 [(0, .str), (2, .int .i64), (6, .int .i64), (7, .int .i64)] []
def LP_call_isPlain_L2 (g : C_call_isPlain) (n : Nat) : LPT A := fun ps => match ps with | [.d (.str p1), .d (.int .i64 p2), .d (.int .i64 p3), .d (.int .i64 p4)] => fun K => call_isPlain_L2 g n p1 p2 p3 p4 (fun z0 z1 => K .ret (mkSt 25 0 [(2, .d (.int .i64 z0)), (3, .d (.bool z1))] [])) (fun z0 => K (.exit 0) (mkSt 25 0 [(2, .d (.int .i64 z0))] [])) | _ => fun _ => none
noncomputable def code_143 : Code := (Tryz.f143.body).getD .skip
noncomputable def E_call_isPlain (g : C_call_isPlain) : Env A := mkE [(144, SS_call_isDigit g.call_isDigit), (174, SS_call_isLetter g.call_isLetter)] [] [(2, ⟨[0, 2, 6, 7], [], [], []⟩)] [(2, ⟨[2, 3], [], [], []⟩)] [(2, pieceOf sh_call_isPlain_L2 (LP_call_isPlain_L2 g g.N))] [] [] [] [] []
theorem ct_call_isPlain [Fuel] : NatTab (E_call_isPlain I_call_isPlain).C := ct_of (P := Tryz.prog) (T := T) (.cons ok_call_isDigit (.cons ok_call_isLetter .nil)) (by kernel_rfl)
noncomputable def cb_call_isPlain_L2 : Code := sub [1, 0, 1, 0, 0] code_143
theorem s_call_isPlain_L2 (g : C_call_isPlain) (n : Nat) : StepOk (E_call_isPlain g) g.N cb_call_isPlain_L2 sh_call_isPlain_L2 (LP_call_isPlain_L2 g) n := by intro ps; unfold LP_call_isPlain_L2; split; exact .inr fun R K => (by kernel_rfl); exact .inl fun R K => rfl
theorem lf_call_isPlain_L2 [Fuel] : LoopFine (E_call_isPlain I_call_isPlain) NN cb_call_isPlain_L2 := fine_loop sh_call_isPlain_L2 (LP_call_isPlain_L2 I_call_isPlain) (by kernel_rfl) ct_call_isPlain (cuts0 (fun _ => rfl) (by kernel_rfl)) (fun ps R K => by unfold LP_call_isPlain_L2; split <;> (try unfold call_isPlain_L2) <;> rfl) (s_call_isPlain_L2 I_call_isPlain)
theorem sm_call_isPlain (g : C_call_isPlain) : Same (SS_call_isPlain (@call_isPlain_ g)) (abody (E_call_isPlain g) Tryz.f143 code_143 0 [] [.asis, .asis] g.N) := by intro args; unfold SS_call_isPlain; split; exact .inr fun R k => (by kernel_rfl); exact .inl fun R k => rfl
theorem ok_call_isPlain [Fuel] : Ok 143 (SS_call_isPlain (@call_isPlain _)) := okF_of std (.cons ok_call_isDigit (.cons ok_call_isLetter .nil)) ⟨rfl, rfl, by kernel_rfl, rfl, rfl, rfl⟩ (sm_call_isPlain I_call_isPlain) (cutsL (fun _ => rfl) (.cons lf_call_isPlain_L2 .nil) (by kernel_rfl)) Tryz.func143 (by kernel_rfl) (by kernel_rfl)
abbrev T_call_split : Type 1 := List UInt8 → {R : Type} → (Int → Bool → Option R) → Option R
structure C_call_split where
 N : Nat
 strings_LastIndexAny : T_strings_LastIndexAny
 call_isPlain : T_call_isPlain
def call_split_ (g : C_call_split) (a1 : List UInt8) {R : Type} (k0 : Int → Bool → Option R) : Option R :=
 (g.call_isPlain a1 (fun r2 r3 => (bif (!r3) then k0 0 false else (bif (decide ((a1.length : Int) > 10)) then k0 0 false else (g.strings_LastIndexAny a1 [48, 49, 50, 51, 52, 53, 54, 55, 56, 57] (fun r4 => (bif (decide (r4 < 1)) then k0 0 false else (bif (decide (r4 > 3)) then k0 0 false else (bif (decide ((w64 ((w64 ((a1.length : Int) - r4)) - 1)) < 1)) then k0 0 false else (bif (decide ((w64 ((w64 ((a1.length : Int) - r4)) - 1)) > 4)) then k0 0 false else (bif (decide (0 ≤ r4) && decide (r4 ≤ (a1.length : Int))) then (g.call_isPlain (a1.take (r4 : Int).toNat) (fun r5 r6 => k0 r4 (decide (r5 > 0)))) else none)))))))))))
noncomputable def I_call_split [Fuel] : C_call_split := ⟨NN, @strings_LastIndexAny _, @call_isPlain _⟩
noncomputable def call_split [Fuel] : T_call_split := @call_split_ I_call_split
def SS_call_split (g : T_call_split) : Spec A := fun args => match args with | [.d (.str a1)] => fun k => g a1 (fun z0 z1 => k (.tup [.d (.int .i64 z0), .d (.bool z1)]) [.undef]) | _ => fun _ => none
noncomputable def code_142 : Code := (Tryz.f142.body).getD .skip
noncomputable def E_call_split (g : C_call_split) : Env A := mkE [(137, SS_strings_LastIndexAny g.strings_LastIndexAny), (143, SS_call_isPlain g.call_isPlain)] [] [] [] [] [] [] [] [] []
theorem sm_call_split (g : C_call_split) : Same (SS_call_split (@call_split_ g)) (abody (E_call_split g) Tryz.f142 code_142 0 [] [.asis, .asis] g.N) := by intro args; unfold SS_call_split; split; exact .inr fun R k => (by kernel_rfl); exact .inl fun R k => rfl
theorem ok_call_split [Fuel] : Ok 142 (SS_call_split (@call_split _)) := okF_of std (.cons ok_strings_LastIndexAny (.cons ok_call_isPlain .nil)) ⟨rfl, rfl, by kernel_rfl, rfl, rfl, rfl⟩ (sm_call_split I_call_split) (cuts0 (fun _ => rfl) (by kernel_rfl)) Tryz.func142 (by kernel_rfl) (by kernel_rfl)
abbrev T_call_based : Type 1 := List UInt8 → {R : Type} → (G_Parts → Bool → Option R) → Option R
structure C_call_based where
 N : Nat
 call_split : T_call_split
def call_based_ (g : C_call_based) (a1 : List UInt8) {R : Type} (k0 : G_Parts → Bool → Option R) : Option R :=
 (g.call_split a1 (fun r2 r3 => (bif (!r3) then k0 (⟨[], [], [], 0, []⟩ : G_Parts) false else (bif (decide (0 ≤ (w64 (r2 + 1))) && decide ((w64 (r2 + 1)) ≤ (a1.length : Int))) then (bif (decide (0 ≤ (w64 (r2 + 1))) && decide ((w64 (r2 + 1)) ≤ (a1.length : Int))) then k0 (⟨a1, (a1.take ((w64 (r2 + 1)) : Int).toNat), (a1.drop ((w64 (r2 + 1)) : Int).toNat), 0, []⟩ : G_Parts) true else none) else none))))
noncomputable def I_call_based [Fuel] : C_call_based := ⟨NN, @call_split _⟩
noncomputable def call_based [Fuel] : T_call_based := @call_based_ I_call_based
def SS_call_based (g : T_call_based) : Spec A := fun args => match args with | [.d (.str a1)] => fun k => g a1 (fun z0 z1 => k (.tup [.agg [.d (.str z0.f_Base), .d (.str z0.f_Prefix), .d (.str z0.f_Suffix), .d (.int .i64 z0.f_Kind), .d (.str z0.f_Added)], .d (.bool z1)]) [.undef]) | _ => fun _ => none
noncomputable def code_111 : Code := (Tryz.f111.body).getD .skip
noncomputable def E_call_based (g : C_call_based) : Env A := mkE [(142, SS_call_split g.call_split)] [(2, [0])] [] [] [] [] [] [] [] []
theorem sm_call_based (g : C_call_based) : Same (SS_call_based (@call_based_ g)) (abody (E_call_based g) Tryz.f111 code_111 1 [] [.asis, .asis] g.N) := by intro args; unfold SS_call_based; split; exact .inr fun R k => (by kernel_rfl); exact .inl fun R k => rfl
theorem ok_call_based [Fuel] : Ok 111 (SS_call_based (@call_based _)) := okF_of std (.cons ok_call_split .nil) ⟨rfl, rfl, by kernel_rfl, rfl, rfl, rfl⟩ (sm_call_based I_call_based) (cuts0 (fun _ => rfl) (by kernel_rfl)) Tryz.func111 (by kernel_rfl) (by kernel_rfl)
abbrev T_call_isBegin : Type 1 := List UInt8 → {R : Type} → (Bool → Option R) → Option R
structure C_call_isBegin where
 N : Nat
 call_isPlain : T_call_isPlain
def call_isBegin_ (g : C_call_isBegin) (a1 : List UInt8) {R : Type} (k0 : Bool → Option R) : Option R :=
 (g.call_isPlain a1 (fun r2 r3 => (bif r3 then (bif (decide (r2 > 0)) then k0 (decide ((a1.length : Int) ≤ 4)) else k0 false) else k0 false)))
noncomputable def I_call_isBegin [Fuel] : C_call_isBegin := ⟨NN, @call_isPlain _⟩
noncomputable def call_isBegin [Fuel] : T_call_isBegin := @call_isBegin_ I_call_isBegin
def SS_call_isBegin (g : T_call_isBegin) : Spec A := fun args => match args with | [.d (.str a1)] => fun k => g a1 (fun z0 => k (.d (.bool z0)) [.undef]) | _ => fun _ => none
noncomputable def code_112 : Code := (Tryz.f112.body).getD .skip
noncomputable def E_call_isBegin (g : C_call_isBegin) : Env A := mkE [(143, SS_call_isPlain g.call_isPlain)] [] [] [] [] [] [] [] [] []
theorem sm_call_isBegin (g : C_call_isBegin) : Same (SS_call_isBegin (@call_isBegin_ g)) (abody (E_call_isBegin g) Tryz.f112 code_112 0 [] [.asis] g.N) := by intro args; unfold SS_call_isBegin; split; exact .inr fun R k => (by kernel_rfl); exact .inl fun R k => rfl
theorem ok_call_isBegin [Fuel] : Ok 112 (SS_call_isBegin (@call_isBegin _)) := okF_of std (.cons ok_call_isPlain .nil) ⟨rfl, rfl, by kernel_rfl, rfl, rfl, rfl⟩ (sm_call_isBegin I_call_isBegin) (cuts0 (fun _ => rfl) (by kernel_rfl)) Tryz.func112 (by kernel_rfl) (by kernel_rfl)
abbrev T_call_tail : Type 1 := List UInt8 → {R : Type} → (Int → List UInt8 → Bool → Option R) → Option R
structure C_call_tail where
 N : Nat
 call_isBegin : T_call_isBegin
 call_isDigit : T_call_isDigit
def call_tail_ (g : C_call_tail) (a1 : List UInt8) {R : Type} (k0 : Int → List UInt8 → Bool → Option R) : Option R :=
 (bif (a1 == [112]) then k0 3 [] true else (bif (a1 == [109]) then k0 4 [] true else (bif (a1 == [109, 109]) then k0 5 [] true else (bif (a1 == [97, 109]) then k0 6 [] true else (bif ((a1.length : Int) == 1) then (at_ a1 0 fun x2 => (g.call_isDigit (x2.toNat : Int) (fun r3 => (bif r3 then k0 2 a1 true else (g.call_isBegin a1 (fun r4 => k0 1 a1 r4)))))) else (g.call_isBegin a1 (fun r5 => k0 1 a1 r5)))))))
noncomputable def I_call_tail [Fuel] : C_call_tail := ⟨NN, @call_isBegin _, @call_isDigit _⟩
noncomputable def call_tail [Fuel] : T_call_tail := @call_tail_ I_call_tail
def SS_call_tail (g : T_call_tail) : Spec A := fun args => match args with | [.d (.str a1)] => fun k => g a1 (fun z0 z1 z2 => k (.tup [.d (.int .i64 z0), .d (.str z1), .d (.bool z2)]) [.undef]) | _ => fun _ => none
noncomputable def code_113 : Code := (Tryz.f113.body).getD .skip
noncomputable def E_call_tail (g : C_call_tail) : Env A := mkE [(112, SS_call_isBegin g.call_isBegin), (144, SS_call_isDigit g.call_isDigit)] [] [] [] [] [] [] [] [] []
theorem sm_call_tail (g : C_call_tail) : Same (SS_call_tail (@call_tail_ g)) (abody (E_call_tail g) Tryz.f113 code_113 0 [] [.asis, .asis, .asis] g.N) := by intro args; unfold SS_call_tail; split; exact .inr fun R k => (by kernel_rfl); exact .inl fun R k => rfl
theorem ok_call_tail [Fuel] : Ok 113 (SS_call_tail (@call_tail _)) := okF_of std (.cons ok_call_isBegin (.cons ok_call_isDigit .nil)) ⟨rfl, rfl, by kernel_rfl, rfl, rfl, rfl⟩ (sm_call_tail I_call_tail) (cuts0 (fun _ => rfl) (by kernel_rfl)) Tryz.func113 (by kernel_rfl) (by kernel_rfl)
abbrev T_call_Parts : Type 1 := List UInt8 → {R : Type} → (G_Parts → Bool → Option R) → Option R
structure C_call_Parts where
 N : Nat
 strings_Cut : T_strings_Cut
 call_based : T_call_based
 call_isBegin : T_call_isBegin
 call_tail : T_call_tail
def call_Parts_ (g : C_call_Parts) (a1 : List UInt8) {R : Type} (k0 : G_Parts → Bool → Option R) : Option R :=
 (bif (decide ((a1.length : Int) > 14)) then k0 (⟨[], [], [], 0, []⟩ : G_Parts) false else (g.call_based a1 (fun r2 r3 => (bif r3 then k0 r2 true else (g.strings_Cut a1 [47] (fun r4 r5 r6 => (bif (!r6) then k0 (⟨[], [], [], 0, []⟩ : G_Parts) false else (g.call_based r5 (fun r7 r8 => (bif r8 then (g.call_isBegin r4 (fun r9 => (bif r9 then k0 (⟨r7.f_Base, r7.f_Prefix, r7.f_Suffix, 1, r4⟩ : G_Parts) true else (g.call_based r4 (fun r10 r11 => (g.call_tail r5 (fun r12 r13 r14 => (bif (!r11) then k0 (⟨[], [], [], 0, []⟩ : G_Parts) false else (bif (!r14) then k0 (⟨[], [], [], 0, []⟩ : G_Parts) false else k0 (⟨r10.f_Base, r10.f_Prefix, r10.f_Suffix, r12, r13⟩ : G_Parts) true))))))))) else (g.call_based r4 (fun r15 r16 => (g.call_tail r5 (fun r17 r18 r19 => (bif (!r16) then k0 (⟨[], [], [], 0, []⟩ : G_Parts) false else (bif (!r19) then k0 (⟨[], [], [], 0, []⟩ : G_Parts) false else k0 (⟨r15.f_Base, r15.f_Prefix, r15.f_Suffix, r17, r18⟩ : G_Parts) true))))))))))))))))
noncomputable def I_call_Parts [Fuel] : C_call_Parts := ⟨NN, @strings_Cut _, @call_based _, @call_isBegin _, @call_tail _⟩
noncomputable def call_Parts [Fuel] : T_call_Parts := @call_Parts_ I_call_Parts
def SS_call_Parts (g : T_call_Parts) : Spec A := fun args => match args with | [.d (.str a1)] => fun k => g a1 (fun z0 z1 => k (.tup [.agg [.d (.str z0.f_Base), .d (.str z0.f_Prefix), .d (.str z0.f_Suffix), .d (.int .i64 z0.f_Kind), .d (.str z0.f_Added)], .d (.bool z1)]) [.undef]) | _ => fun _ => none
noncomputable def code_84 : Code := (Tryz.f84.body).getD .skip
noncomputable def E_call_Parts (g : C_call_Parts) : Env A := mkE [(106, SS_strings_Cut g.strings_Cut), (111, SS_call_based g.call_based), (112, SS_call_isBegin g.call_isBegin), (113, SS_call_tail g.call_tail)] [(2, [0]), (4, [1]), (9, [2]), (11, [3])] [] [] [] [] [] [] [] []
theorem sm_call_Parts (g : C_call_Parts) : Same (SS_call_Parts (@call_Parts_ g)) (abody (E_call_Parts g) Tryz.f84 code_84 4 [] [.asis, .asis] g.N) := by intro args; unfold SS_call_Parts; split; exact .inr fun R k => (by kernel_rfl); exact .inl fun R k => rfl
theorem ok_call_Parts [Fuel] : Ok 84 (SS_call_Parts (@call_Parts _)) := okF_of std (.cons ok_strings_Cut (.cons ok_call_based (.cons ok_call_isBegin (.cons ok_call_tail .nil)))) ⟨rfl, rfl, by kernel_rfl, rfl, rfl, rfl⟩ (sm_call_Parts I_call_Parts) (cuts0 (fun _ => rfl) (by kernel_rfl)) Tryz.func84 (by kernel_rfl) (by kernel_rfl)
abbrev T_call_Is : Type 1 := List UInt8 → {R : Type} → (Bool → Option R) → Option R
structure C_call_Is where
 N : Nat
 call_Parts : T_call_Parts
def call_Is_ (g : C_call_Is) (a1 : List UInt8) {R : Type} (k0 : Bool → Option R) : Option R :=
 (g.call_Parts a1 (fun r2 r3 => k0 r3))
noncomputable def I_call_Is [Fuel] : C_call_Is := ⟨NN, @call_Parts _⟩
noncomputable def call_Is [Fuel] : T_call_Is := @call_Is_ I_call_Is
def SS_call_Is (g : T_call_Is) : Spec A := fun args => match args with | [.d (.str a1)] => fun k => g a1 (fun z0 => k (.d (.bool z0)) [.undef]) | _ => fun _ => none
noncomputable def code_59 : Code := (Tryz.f59.body).getD .skip
noncomputable def E_call_Is (g : C_call_Is) : Env A := mkE [(84, SS_call_Parts g.call_Parts)] [(3, [0])] [] [] [] [] [] [] [] []
theorem sm_call_Is (g : C_call_Is) : Same (SS_call_Is (@call_Is_ g)) (abody (E_call_Is g) Tryz.f59 code_59 1 [] [.asis] g.N) := by intro args; unfold SS_call_Is; split; exact .inr fun R k => (by kernel_rfl); exact .inl fun R k => rfl
theorem ok_call_Is [Fuel] : Ok 59 (SS_call_Is (@call_Is _)) := okF_of std (.cons ok_call_Parts .nil) ⟨rfl, rfl, by kernel_rfl, rfl, rfl, rfl⟩ (sm_call_Is I_call_Is) (cuts0 (fun _ => rfl) (by kernel_rfl)) Tryz.func59 (by kernel_rfl) (by kernel_rfl)
abbrev T_kit_IsName : Type 1 := List UInt8 → {R : Type} → (Bool → Option R) → Option R
structure C_kit_IsName where
 N : Nat
 kit_IsKey : T_kit_IsKey
def kit_IsName_ (g : C_kit_IsName) (a1 : List UInt8) {R : Type} (k0 : Bool → Option R) : Option R :=
 (bif (a1 == []) then k0 true else (g.kit_IsKey a1 (fun r2 => k0 r2)))
noncomputable def I_kit_IsName [Fuel] : C_kit_IsName := ⟨NN, @kit_IsKey _⟩
noncomputable def kit_IsName [Fuel] : T_kit_IsName := @kit_IsName_ I_kit_IsName
def SS_kit_IsName (g : T_kit_IsName) : Spec A := fun args => match args with | [.d (.str a1)] => fun k => g a1 (fun z0 => k (.d (.bool z0)) [.undef]) | _ => fun _ => none
noncomputable def code_60 : Code := (Tryz.f60.body).getD .skip
noncomputable def E_kit_IsName (g : C_kit_IsName) : Env A := mkE [(37, SS_kit_IsKey g.kit_IsKey)] [] [] [] [] [] [] [] [] []
theorem sm_kit_IsName (g : C_kit_IsName) : Same (SS_kit_IsName (@kit_IsName_ g)) (abody (E_kit_IsName g) Tryz.f60 code_60 0 [] [.asis] g.N) := by intro args; unfold SS_kit_IsName; split; exact .inr fun R k => (by kernel_rfl); exact .inl fun R k => rfl
theorem ok_kit_IsName [Fuel] : Ok 60 (SS_kit_IsName (@kit_IsName _)) := okF_of std (.cons ok_kit_IsKey .nil) ⟨rfl, rfl, by kernel_rfl, rfl, rfl, rfl⟩ (sm_kit_IsName I_kit_IsName) (cuts0 (fun _ => rfl) (by kernel_rfl)) Tryz.func60 (by kernel_rfl) (by kernel_rfl)
abbrev T_log_CheckContact : Type 1 := G_Contact → {R : Type} → (Int → Option R) → Option R
structure C_log_CheckContact where
 N : Nat
 kit_Outside : T_kit_Outside
 kit_IsKey : T_kit_IsKey
 kit_IsMode : T_kit_IsMode
 kit_IsMoment : T_kit_IsMoment
 call_Is : T_call_Is
 kit_IsName : T_kit_IsName
def log_CheckContact_ (g : C_log_CheckContact) (a1 : G_Contact) {R : Type} (k0 : Int → Option R) : Option R :=
 (g.kit_IsMoment a1.f_At (fun r2 => (bif (!r2) then k0 1 else (g.kit_IsMode a1.f_Mode (fun r3 => (bif (!r3) then k0 4 else (g.kit_IsKey a1.f_Band (fun r4 => (bif (!r4) then k0 5 else (g.call_Is a1.f_Call (fun r5 => (bif (!r5) then k0 3 else (g.kit_Outside a1.f_Sent 0 99999 (fun r6 => (bif r6 then k0 1 else (g.kit_Outside a1.f_Heard 0 99999 (fun r7 => (bif r7 then k0 1 else (g.kit_IsName a1.f_Gave (fun r8 => (bif (!r8) then k0 5 else (g.kit_IsName a1.f_Got (fun r9 => (bif (!r9) then k0 5 else k0 0))))))))))))))))))))))))
noncomputable def I_log_CheckContact [Fuel] : C_log_CheckContact := ⟨NN, @kit_Outside _, @kit_IsKey _, @kit_IsMode _, @kit_IsMoment _, @call_Is _, @kit_IsName _⟩
noncomputable def log_CheckContact [Fuel] : T_log_CheckContact := @log_CheckContact_ I_log_CheckContact
def SS_log_CheckContact (g : T_log_CheckContact) : Spec A := fun args => match args with | [.agg [.d (.int .i64 a1), .d (.int .i64 a2), .d (.str a3), .d (.str a4), .d (.int .i64 a5), .d (.int .i64 a6), .d (.str a7), .d (.str a8)]] => fun k => g ⟨a1, a2, a3, a4, a5, a6, a7, a8⟩ (fun z0 => k (.d (.int .i64 z0)) [.undef]) | _ => fun _ => none
noncomputable def code_33 : Code := (Tryz.f33.body).getD .skip
noncomputable def E_log_CheckContact (g : C_log_CheckContact) : Env A := mkE [(17, SS_kit_Outside g.kit_Outside), (37, SS_kit_IsKey g.kit_IsKey), (38, SS_kit_IsMode g.kit_IsMode), (39, SS_kit_IsMoment g.kit_IsMoment), (59, SS_call_Is g.call_Is), (60, SS_kit_IsName g.kit_IsName)] [(1, [0])] [] [] [] [] [] [] [] []
theorem sm_log_CheckContact (g : C_log_CheckContact) : Same (SS_log_CheckContact (@log_CheckContact_ g)) (abody (E_log_CheckContact g) Tryz.f33 code_33 1 [] [.asis] g.N) := by intro args; unfold SS_log_CheckContact; split; exact .inr fun R k => (by kernel_rfl); exact .inl fun R k => rfl
theorem ok_log_CheckContact [Fuel] : Ok 33 (SS_log_CheckContact (@log_CheckContact _)) := okF_of std (.cons ok_kit_Outside (.cons ok_kit_IsKey (.cons ok_kit_IsMode (.cons ok_kit_IsMoment (.cons ok_call_Is (.cons ok_kit_IsName .nil)))))) ⟨rfl, rfl, by kernel_rfl, rfl, rfl, rfl⟩ (sm_log_CheckContact I_log_CheckContact) (cuts0 (fun _ => rfl) (by kernel_rfl)) Tryz.func33 (by kernel_rfl) (by kernel_rfl)
abbrev T_cmp_isNaN__int : Type 1 := Int → {R : Type} → (Bool → Option R) → Option R
def cmp_isNaN__int_ (g : Nat) (a1 : Int) {R : Type} (k0 : Bool → Option R) : Option R :=
 k0 (a1 != a1)
noncomputable def cmp_isNaN__int [Fuel] : T_cmp_isNaN__int := @cmp_isNaN__int_ NN
def SS_cmp_isNaN__int (g : T_cmp_isNaN__int) : Spec A := fun args => match args with | [.d (.int .i64 a1)] => fun k => g a1 (fun z0 => k (.d (.bool z0)) [.undef]) | _ => fun _ => none
noncomputable def code_85 : Code := (Tryz.f85.body).getD .skip
noncomputable def E_cmp_isNaN__int (g : Nat) : Env A := mkE [] [] [] [] [] [] [] [] [] []
theorem sm_cmp_isNaN__int (g : Nat) : Same (SS_cmp_isNaN__int (@cmp_isNaN__int_ g)) (abody (E_cmp_isNaN__int g) Tryz.f85 code_85 0 [] [.asis] g) := by intro args; unfold SS_cmp_isNaN__int; split; exact .inr fun R k => (by kernel_rfl); exact .inl fun R k => rfl
theorem ok_cmp_isNaN__int [Fuel] : Ok 85 (SS_cmp_isNaN__int (@cmp_isNaN__int _)) := okF_of std .nil ⟨rfl, rfl, by kernel_rfl, rfl, rfl, rfl⟩ (sm_cmp_isNaN__int NN) (cuts0 (fun _ => rfl) (by kernel_rfl)) Tryz.func85 (by kernel_rfl) (by kernel_rfl)
noncomputable def Ed_cmp_isNaN__int (g : Nat) : Env A := mkED [] [] [] [] [] [] [] [] [] []
theorem smd_cmp_isNaN__int (g : Nat) : Same (SS_cmp_isNaN__int (@cmp_isNaN__int_ g)) (abody (Ed_cmp_isNaN__int g) Tryz.f85 code_85 0 [] [.asis] g) := by intro args; unfold SS_cmp_isNaN__int; split; exact .inr fun R k => (by kernel_rfl); exact .inl fun R k => rfl
theorem okd_cmp_isNaN__int [Fuel] : OkD 85 (SS_cmp_isNaN__int (@cmp_isNaN__int _)) := okF_of stdD .nil ⟨rfl, rfl, by kernel_rfl, rfl, rfl, rfl⟩ (smd_cmp_isNaN__int NN) (cuts0 (fun _ => rfl) (by kernel_rfl)) Tryz.func85 (by kernel_rfl) (by kernel_rfl)
abbrev T_cmp_Compare__int : Type 1 := Int → Int → {R : Type} → (Int → Option R) → Option R
structure C_cmp_Compare__int where
 N : Nat
 cmp_isNaN__int : T_cmp_isNaN__int
def cmp_Compare__int_ (g : C_cmp_Compare__int) (a1 a2 : Int) {R : Type} (k0 : Int → Option R) : Option R :=
 (g.cmp_isNaN__int a1 (fun r3 => (g.cmp_isNaN__int a2 (fun r4 => (bif r3 then (bif r4 then k0 0 else k0 (-1)) else (bif r4 then k0 1 else (bif (decide (a1 < a2)) then k0 (-1) else (bif (decide (a1 > a2)) then k0 1 else k0 0))))))))
noncomputable def I_cmp_Compare__int [Fuel] : C_cmp_Compare__int := ⟨NN, @cmp_isNaN__int _⟩
noncomputable def cmp_Compare__int [Fuel] : T_cmp_Compare__int := @cmp_Compare__int_ I_cmp_Compare__int
def SS_cmp_Compare__int (g : T_cmp_Compare__int) : Spec A := fun args => match args with | [.d (.int .i64 a1), .d (.int .i64 a2)] => fun k => g a1 a2 (fun z0 => k (.d (.int .i64 z0)) [.undef, .undef]) | _ => fun _ => none
noncomputable def code_62 : Code := (Tryz.f62.body).getD .skip
noncomputable def E_cmp_Compare__int (g : C_cmp_Compare__int) : Env A := mkE [(85, SS_cmp_isNaN__int g.cmp_isNaN__int)] [] [] [] [] [] [] [] [] []
theorem sm_cmp_Compare__int (g : C_cmp_Compare__int) : Same (SS_cmp_Compare__int (@cmp_Compare__int_ g)) (abody (E_cmp_Compare__int g) Tryz.f62 code_62 0 [] [.asis] g.N) := by intro args; unfold SS_cmp_Compare__int; split; exact .inr fun R k => (by kernel_rfl); exact .inl fun R k => rfl
theorem ok_cmp_Compare__int [Fuel] : Ok 62 (SS_cmp_Compare__int (@cmp_Compare__int _)) := okF_of std (.cons ok_cmp_isNaN__int .nil) ⟨rfl, rfl, by kernel_rfl, rfl, rfl, rfl⟩ (sm_cmp_Compare__int I_cmp_Compare__int) (cuts0 (fun _ => rfl) (by kernel_rfl)) Tryz.func62 (by kernel_rfl) (by kernel_rfl)
noncomputable def Ed_cmp_Compare__int (g : C_cmp_Compare__int) : Env A := mkED [(85, SS_cmp_isNaN__int g.cmp_isNaN__int)] [] [] [] [] [] [] [] [] []
theorem smd_cmp_Compare__int (g : C_cmp_Compare__int) : Same (SS_cmp_Compare__int (@cmp_Compare__int_ g)) (abody (Ed_cmp_Compare__int g) Tryz.f62 code_62 0 [] [.asis] g.N) := by intro args; unfold SS_cmp_Compare__int; split; exact .inr fun R k => (by kernel_rfl); exact .inl fun R k => rfl
theorem okd_cmp_Compare__int [Fuel] : OkD 62 (SS_cmp_Compare__int (@cmp_Compare__int _)) := okF_of stdD (.cons okd_cmp_isNaN__int .nil) ⟨rfl, rfl, by kernel_rfl, rfl, rfl, rfl⟩ (smd_cmp_Compare__int I_cmp_Compare__int) (cuts0 (fun _ => rfl) (by kernel_rfl)) Tryz.func62 (by kernel_rfl) (by kernel_rfl)
abbrev T_cmp_Or__int : Type 1 := List Int → {R : Type} → (Int → Option R) → Option R
def cmp_Or__int_L3 (g : Nat) : Nat → Int → List Int → Int → Int → {R : Type} → (Int → Int → Option R) → (Int → Option R) → Option R
 | 0, _, _, _, _, _, _, _ => none
 | n + 1, v2, v3, v4, v5, _, e0, e1 => (bif (decide (v5 < v4)) then (get_ v3 v5 fun x7 => (bif (x7 != v2) then e0 x7 v2 else cmp_Or__int_L3 g n v2 v3 v4 (w64 (v5 + 1)) e0 e1)) else e1 v2)
def cmp_Or__int_ (g : Nat) (a1 : List Int) {R : Type} (k0 : Int → Option R) : Option R :=
 (cmp_Or__int_L3 g g 0 a1 (a1.length : Int) 0 (fun e8 e9 => k0 e8) (fun e10 => k0 e10))
noncomputable def cmp_Or__int [Fuel] : T_cmp_Or__int := @cmp_Or__int_ NN
def SS_cmp_Or__int (g : T_cmp_Or__int) : Spec A := fun args => match args with | [.d (.sl 3 a1)] => fun k => g a1 (fun z0 => k (.d (.int .i64 z0)) [.undef]) | _ => fun _ => none
def sh_cmp_Or__int_L3 : SSt := mkSh 18 0 [(3, .int .i64), (6, .sl 3), (7, .int .i64), (8, .int .i64)] []
def LP_cmp_Or__int_L3 (g : Nat) (n : Nat) : LPT A := fun ps => match ps with | [.d (.int .i64 p1), .d (.sl 3 p2), .d (.int .i64 p3), .d (.int .i64 p4)] => fun K => cmp_Or__int_L3 g n p1 p2 p3 p4 (fun z0 z1 => K .ret (mkSt 18 0 [(2, .d (.int .i64 z0)), (3, .d (.int .i64 z1))] [])) (fun z0 => K (.exit 0) (mkSt 18 0 [(3, .d (.int .i64 z0))] [])) | _ => fun _ => none
noncomputable def code_61 : Code := (Tryz.f61.body).getD .skip
noncomputable def E_cmp_Or__int (g : Nat) : Env A := mkE [] [] [(3, ⟨[3, 6, 7, 8], [], [], []⟩)] [(3, ⟨[2, 3], [], [], []⟩)] [(3, pieceOf sh_cmp_Or__int_L3 (LP_cmp_Or__int_L3 g g))] [] [] [] [] []
theorem ct_cmp_Or__int [Fuel] : NatTab (E_cmp_Or__int NN).C := ct_of (P := Tryz.prog) (T := T) .nil (by kernel_rfl)
noncomputable def cb_cmp_Or__int_L3 : Code := sub [1, 1, 0, 1, 0, 0] code_61
theorem s_cmp_Or__int_L3 (g : Nat) (n : Nat) : StepOk (E_cmp_Or__int g) g cb_cmp_Or__int_L3 sh_cmp_Or__int_L3 (LP_cmp_Or__int_L3 g) n := by intro ps; unfold LP_cmp_Or__int_L3; split; exact .inr fun R K => (by kernel_rfl); exact .inl fun R K => rfl
theorem lf_cmp_Or__int_L3 [Fuel] : LoopFine (E_cmp_Or__int NN) NN cb_cmp_Or__int_L3 := fine_loop sh_cmp_Or__int_L3 (LP_cmp_Or__int_L3 NN) (by kernel_rfl) ct_cmp_Or__int (cuts0 (fun _ => rfl) (by kernel_rfl)) (fun ps R K => by unfold LP_cmp_Or__int_L3; split <;> (try unfold cmp_Or__int_L3) <;> rfl) (s_cmp_Or__int_L3 NN)
theorem sm_cmp_Or__int (g : Nat) : Same (SS_cmp_Or__int (@cmp_Or__int_ g)) (abody (E_cmp_Or__int g) Tryz.f61 code_61 0 [] [.asis] g) := by intro args; unfold SS_cmp_Or__int; split; exact .inr fun R k => (by kernel_rfl); exact .inl fun R k => rfl
theorem ok_cmp_Or__int [Fuel] : Ok 61 (SS_cmp_Or__int (@cmp_Or__int _)) := okF_of std .nil ⟨rfl, rfl, by kernel_rfl, rfl, rfl, rfl⟩ (sm_cmp_Or__int NN) (cutsL (fun _ => rfl) (.cons lf_cmp_Or__int_L3 .nil) (by kernel_rfl)) Tryz.func61 (by kernel_rfl) (by kernel_rfl)
noncomputable def Ed_cmp_Or__int (g : Nat) : Env A := mkED [] [] [(3, ⟨[3, 6, 7, 8], [], [], []⟩)] [(3, ⟨[2, 3], [], [], []⟩)] [(3, pieceOf sh_cmp_Or__int_L3 (LP_cmp_Or__int_L3 g g))] [] [] [] [] []
theorem ctd_cmp_Or__int [Fuel] : NatTab (Ed_cmp_Or__int NN).C := ct_of (P := Tryz.prog) (T := TD) .nil (by kernel_rfl)
theorem sd_cmp_Or__int_L3 (g : Nat) (n : Nat) : StepOk (Ed_cmp_Or__int g) g cb_cmp_Or__int_L3 sh_cmp_Or__int_L3 (LP_cmp_Or__int_L3 g) n := by intro ps; unfold LP_cmp_Or__int_L3; split; exact .inr fun R K => (by kernel_rfl); exact .inl fun R K => rfl
theorem lfd_cmp_Or__int_L3 [Fuel] : LoopFine (Ed_cmp_Or__int NN) NN cb_cmp_Or__int_L3 := fine_loop sh_cmp_Or__int_L3 (LP_cmp_Or__int_L3 NN) (by kernel_rfl) ctd_cmp_Or__int (cuts0 (fun _ => rfl) (by kernel_rfl)) (fun ps R K => by unfold LP_cmp_Or__int_L3; split <;> (try unfold cmp_Or__int_L3) <;> rfl) (sd_cmp_Or__int_L3 NN)
theorem smd_cmp_Or__int (g : Nat) : Same (SS_cmp_Or__int (@cmp_Or__int_ g)) (abody (Ed_cmp_Or__int g) Tryz.f61 code_61 0 [] [.asis] g) := by intro args; unfold SS_cmp_Or__int; split; exact .inr fun R k => (by kernel_rfl); exact .inl fun R k => rfl
theorem okd_cmp_Or__int [Fuel] : OkD 61 (SS_cmp_Or__int (@cmp_Or__int _)) := okF_of stdD .nil ⟨rfl, rfl, by kernel_rfl, rfl, rfl, rfl⟩ (smd_cmp_Or__int NN) (cutsL (fun _ => rfl) (.cons lfd_cmp_Or__int_L3 .nil) (by kernel_rfl)) Tryz.func61 (by kernel_rfl) (by kernel_rfl)
abbrev T_log_Compare : Type 1 := G_Contact → G_Contact → {R : Type} → (Int → Option R) → Option R
structure C_log_Compare where
 N : Nat
 strings_Compare : T_strings_Compare
 cmp_Or__int : T_cmp_Or__int
 cmp_Compare__int : T_cmp_Compare__int
def log_Compare_ (g : C_log_Compare) (a1 a2 : G_Contact) {R : Type} (k0 : Int → Option R) : Option R :=
 (g.cmp_Compare__int a1.f_At a2.f_At (fun r3 => (g.strings_Compare a1.f_Call a2.f_Call (fun r4 => (g.strings_Compare a1.f_Band a2.f_Band (fun r5 => (g.cmp_Compare__int a1.f_Mode a2.f_Mode (fun r6 => (g.cmp_Or__int [r3, r4, r5, r6] (fun r7 => k0 r7))))))))))
noncomputable def I_log_Compare [Fuel] : C_log_Compare := ⟨NN, @strings_Compare _, @cmp_Or__int _, @cmp_Compare__int _⟩
noncomputable def log_Compare [Fuel] : T_log_Compare := @log_Compare_ I_log_Compare
def SS_log_Compare (g : T_log_Compare) : Spec A := fun args => match args with | [.agg [.d (.int .i64 a1), .d (.int .i64 a2), .d (.str a3), .d (.str a4), .d (.int .i64 a5), .d (.int .i64 a6), .d (.str a7), .d (.str a8)], .agg [.d (.int .i64 a9), .d (.int .i64 a10), .d (.str a11), .d (.str a12), .d (.int .i64 a13), .d (.int .i64 a14), .d (.str a15), .d (.str a16)]] => fun k => g ⟨a1, a2, a3, a4, a5, a6, a7, a8⟩ ⟨a9, a10, a11, a12, a13, a14, a15, a16⟩ (fun z0 => k (.d (.int .i64 z0)) [.undef, .undef]) | _ => fun _ => none
noncomputable def code_34 : Code := (Tryz.f34.body).getD .skip
noncomputable def E_log_Compare (g : C_log_Compare) : Env A := mkE [(54, SS_strings_Compare g.strings_Compare), (61, SS_cmp_Or__int g.cmp_Or__int), (62, SS_cmp_Compare__int g.cmp_Compare__int)] [(2, [0]), (3, [1]), (25, [2])] [] [] [] [] [] [] [] []
theorem sm_log_Compare (g : C_log_Compare) : Same (SS_log_Compare (@log_Compare_ g)) (abody (E_log_Compare g) Tryz.f34 code_34 3 [] [.asis] g.N) := by intro args; unfold SS_log_Compare; split; exact .inr fun R k => (by kernel_rfl); exact .inl fun R k => rfl
theorem ok_log_Compare [Fuel] : Ok 34 (SS_log_Compare (@log_Compare _)) := okF_of std (.cons ok_strings_Compare (.cons ok_cmp_Or__int (.cons ok_cmp_Compare__int .nil))) ⟨rfl, rfl, by kernel_rfl, rfl, rfl, rfl⟩ (sm_log_Compare I_log_Compare) (cuts0 (fun _ => rfl) (by kernel_rfl)) Tryz.func34 (by kernel_rfl) (by kernel_rfl)
noncomputable def Ed_log_Compare (g : C_log_Compare) : Env A := mkED [(54, SS_strings_Compare g.strings_Compare), (61, SS_cmp_Or__int g.cmp_Or__int), (62, SS_cmp_Compare__int g.cmp_Compare__int)] [(2, [0]), (3, [1]), (25, [2])] [] [] [] [] [] [] [] []
theorem smd_log_Compare (g : C_log_Compare) : Same (SS_log_Compare (@log_Compare_ g)) (abody (Ed_log_Compare g) Tryz.f34 code_34 3 [] [.asis] g.N) := by intro args; unfold SS_log_Compare; split; exact .inr fun R k => (by kernel_rfl); exact .inl fun R k => rfl
theorem okd_log_Compare [Fuel] : OkD 34 (SS_log_Compare (@log_Compare _)) := okF_of stdD (.cons okd_strings_Compare (.cons okd_cmp_Or__int (.cons okd_cmp_Compare__int .nil))) ⟨rfl, rfl, by kernel_rfl, rfl, rfl, rfl⟩ (smd_log_Compare I_log_Compare) (cuts0 (fun _ => rfl) (by kernel_rfl)) Tryz.func34 (by kernel_rfl) (by kernel_rfl)
abbrev T_log_CheckLog : Type 1 := List G_Contact → {R : Type} → (Int → Option R) → Option R
structure C_log_CheckLog where
 N : Nat
 log_CheckContact : T_log_CheckContact
 log_Compare : T_log_Compare
def log_CheckLog_L4 (g : C_log_CheckLog) : Nat → List G_Contact → List G_Contact → Int → Int → {R : Type} → (Int → Option R) → Option R → Option R
 | 0, _, _, _, _, _, _, _ => none
 | n + 1, v2, v3, v4, v5, _, e0, e1 => (bif (decide (v5 < v4)) then (get_ v3 v5 fun x10 => (g.log_CheckContact x10 (fun r11 => (bif (r11 != 0) then e0 r11 else (bif (decide (v5 > 0)) then (get_ v2 (w64 (v5 - 1)) fun x12 => (g.log_Compare x12 x10 (fun r13 => (bif (decide (r13 ≥ 0)) then e0 7 else log_CheckLog_L4 g n v2 v3 v4 (w64 (v5 + 1)) e0 e1)))) else log_CheckLog_L4 g n v2 v3 v4 (w64 (v5 + 1)) e0 e1))))) else e1)
def log_CheckLog_ (g : C_log_CheckLog) (a1 : List G_Contact) {R : Type} (k0 : Int → Option R) : Option R :=
 (bif (decide ((a1.length : Int) > 2000)) then k0 2 else (log_CheckLog_L4 g g.N a1 a1 (a1.length : Int) 0 (fun e14 => k0 e14) (k0 0)))
noncomputable def I_log_CheckLog [Fuel] : C_log_CheckLog := ⟨NN, @log_CheckContact _, @log_Compare _⟩
noncomputable def log_CheckLog [Fuel] : T_log_CheckLog := @log_CheckLog_ I_log_CheckLog
def SS_log_CheckLog (g : T_log_CheckLog) : Spec A := fun args => match args with | [.d (.sl 39 a1)] => fun k => g a1 (fun z0 => k (.d (.int .i64 z0)) [.undef]) | _ => fun _ => none
def sh_log_CheckLog_L4 : SSt := mkSh 34 1 [(0, .sl 39), (9, .sl 39), (10, .int .i64), (11, .int .i64)] []
def LP_log_CheckLog_L4 (g : C_log_CheckLog) (n : Nat) : LPT A := fun ps => match ps with | [.d (.sl 39 p1), .d (.sl 39 p2), .d (.int .i64 p3), .d (.int .i64 p4)] => fun K => log_CheckLog_L4 g n p1 p2 p3 p4 (fun z0 => K .ret (mkSt 34 1 [(2, .d (.int .i64 z0))] [])) (K (.exit 0) (mkSt 34 1 [] [])) | _ => fun _ => none
noncomputable def code_15 : Code := (Tryz.f15.body).getD .skip
noncomputable def E_log_CheckLog (g : C_log_CheckLog) : Env A := mkE [(33, SS_log_CheckContact g.log_CheckContact), (34, SS_log_Compare g.log_Compare)] [(4, [0])] [(4, ⟨[0, 9, 10, 11], [], [], []⟩)] [(4, ⟨[2], [], [], []⟩)] [(4, pieceOf sh_log_CheckLog_L4 (LP_log_CheckLog_L4 g g.N))] [] [] [] [] []
theorem ct_log_CheckLog [Fuel] : NatTab (E_log_CheckLog I_log_CheckLog).C := ct_of (P := Tryz.prog) (T := T) (.cons ok_log_CheckContact (.cons ok_log_Compare .nil)) (by kernel_rfl)
noncomputable def cb_log_CheckLog_L4 : Code := sub [1, 1, 0, 1, 0, 0] code_15
theorem s_log_CheckLog_L4 (g : C_log_CheckLog) (n : Nat) : StepOk (E_log_CheckLog g) g.N cb_log_CheckLog_L4 sh_log_CheckLog_L4 (LP_log_CheckLog_L4 g) n := by intro ps; unfold LP_log_CheckLog_L4; split; exact .inr fun R K => (by kernel_rfl); exact .inl fun R K => rfl
theorem lf_log_CheckLog_L4 [Fuel] : LoopFine (E_log_CheckLog I_log_CheckLog) NN cb_log_CheckLog_L4 := fine_loop sh_log_CheckLog_L4 (LP_log_CheckLog_L4 I_log_CheckLog) (by kernel_rfl) ct_log_CheckLog (cuts0 (fun _ => rfl) (by kernel_rfl)) (fun ps R K => by unfold LP_log_CheckLog_L4; split <;> (try unfold log_CheckLog_L4) <;> rfl) (s_log_CheckLog_L4 I_log_CheckLog)
theorem sm_log_CheckLog (g : C_log_CheckLog) : Same (SS_log_CheckLog (@log_CheckLog_ g)) (abody (E_log_CheckLog g) Tryz.f15 code_15 1 [] [.asis] g.N) := by intro args; unfold SS_log_CheckLog; split; exact .inr fun R k => (by kernel_rfl); exact .inl fun R k => rfl
theorem ok_log_CheckLog [Fuel] : Ok 15 (SS_log_CheckLog (@log_CheckLog _)) := okF_of std (.cons ok_log_CheckContact (.cons ok_log_Compare .nil)) ⟨rfl, rfl, by kernel_rfl, rfl, rfl, rfl⟩ (sm_log_CheckLog I_log_CheckLog) (cutsL (fun _ => rfl) (.cons lf_log_CheckLog_L4 .nil) (by kernel_rfl)) Tryz.func15 (by kernel_rfl) (by kernel_rfl)
abbrev T_kit_IsWindow : Type 1 := G_Window → {R : Type} → (Bool → Option R) → Option R
structure C_kit_IsWindow where
 N : Nat
 kit_Outside : T_kit_Outside
def kit_IsWindow_ (g : C_kit_IsWindow) (a1 : G_Window) {R : Type} (k0 : Bool → Option R) : Option R :=
 (g.kit_Outside a1.f_From 0 a1.f_To (fun r2 => (bif (!r2) then k0 (decide (a1.f_To ≤ 345686400000)) else k0 false)))
noncomputable def I_kit_IsWindow [Fuel] : C_kit_IsWindow := ⟨NN, @kit_Outside _⟩
noncomputable def kit_IsWindow [Fuel] : T_kit_IsWindow := @kit_IsWindow_ I_kit_IsWindow
def SS_kit_IsWindow (g : T_kit_IsWindow) : Spec A := fun args => match args with | [.agg [.d (.int .i64 a1), .d (.int .i64 a2)]] => fun k => g ⟨a1, a2⟩ (fun z0 => k (.d (.bool z0)) [.undef]) | _ => fun _ => none
noncomputable def code_16 : Code := (Tryz.f16.body).getD .skip
noncomputable def E_kit_IsWindow (g : C_kit_IsWindow) : Env A := mkE [(17, SS_kit_Outside g.kit_Outside)] [(1, [0])] [] [] [] [] [] [] [] []
theorem sm_kit_IsWindow (g : C_kit_IsWindow) : Same (SS_kit_IsWindow (@kit_IsWindow_ g)) (abody (E_kit_IsWindow g) Tryz.f16 code_16 1 [] [.asis] g.N) := by intro args; unfold SS_kit_IsWindow; split; exact .inr fun R k => (by kernel_rfl); exact .inl fun R k => rfl
theorem ok_kit_IsWindow [Fuel] : Ok 16 (SS_kit_IsWindow (@kit_IsWindow _)) := okF_of std (.cons ok_kit_Outside .nil) ⟨rfl, rfl, by kernel_rfl, rfl, rfl, rfl⟩ (sm_kit_IsWindow I_kit_IsWindow) (cuts0 (fun _ => rfl) (by kernel_rfl)) Tryz.func16 (by kernel_rfl) (by kernel_rfl)
abbrev T_kit_Has : Type 1 := G_Window → Int → {R : Type} → (Bool → Option R) → Option R
def kit_Has_ (g : Nat) (a1 : G_Window) (a2 : Int) {R : Type} (k0 : Bool → Option R) : Option R :=
 (bif (decide (a1.f_From ≤ a2)) then k0 (decide (a2 < a1.f_To)) else k0 false)
noncomputable def kit_Has [Fuel] : T_kit_Has := @kit_Has_ NN
def SS_kit_Has (g : T_kit_Has) : Spec A := fun args => match args with | [.agg [.d (.int .i64 a1), .d (.int .i64 a2)], .d (.int .i64 a3)] => fun k => g ⟨a1, a2⟩ a3 (fun z0 => k (.d (.bool z0)) [.undef, .undef]) | _ => fun _ => none
noncomputable def code_19 : Code := (Tryz.f19.body).getD .skip
noncomputable def E_kit_Has (g : Nat) : Env A := mkE [] [(2, [0])] [] [] [] [] [] [] [] []
theorem sm_kit_Has (g : Nat) : Same (SS_kit_Has (@kit_Has_ g)) (abody (E_kit_Has g) Tryz.f19 code_19 1 [] [.asis] g) := by intro args; unfold SS_kit_Has; split; exact .inr fun R k => (by kernel_rfl); exact .inl fun R k => rfl
theorem ok_kit_Has [Fuel] : Ok 19 (SS_kit_Has (@kit_Has _)) := okF_of std .nil ⟨rfl, rfl, by kernel_rfl, rfl, rfl, rfl⟩ (sm_kit_Has NN) (cuts0 (fun _ => rfl) (by kernel_rfl)) Tryz.func19 (by kernel_rfl) (by kernel_rfl)
abbrev T_log_Pauses_1_ba3 : Type 1 := Int → Int → Int → List G_Window → {R : Type} → (Int → Int → List G_Window → Option R) → Option R
def log_Pauses_1_ba3_ (g : Nat) (a1 a2 a3 : Int) (a4 : List G_Window) {R : Type} (k0 : Int → Int → List G_Window → Option R) : Option R :=
 (bif (decide ((w64 (a1 - a2)) ≥ a3)) then (bif (decide ((a4.length + [(⟨a2, a1⟩ : G_Window)].length) * 16 ≤ roomBytes')) then k0 a2 a3 (a4 ++ [(⟨a2, a1⟩ : G_Window)]) else none) else k0 a2 a3 a4)
noncomputable def log_Pauses_1_ba3 [Fuel] : T_log_Pauses_1_ba3 := @log_Pauses_1_ba3_ NN
def SS_log_Pauses_1_ba3 (g : T_log_Pauses_1_ba3) : Spec A := fun args => match args with | [.d (.int .i64 a1), .box [.d (.int .i64 a2)], .box [.d (.int .i64 a3)], .box [.arr 30 a4]] => fun k => g a1 a2 a3 a4 (fun z0 z1 z2 => k (.tup []) [.undef, .box [.d (.int .i64 z0)], .box [.d (.int .i64 z1)], .box [.arr 30 z2]]) | _ => fun _ => none
noncomputable def code_18 : Code := (Tryz.f18.body).getD .skip
noncomputable def E_log_Pauses_1_ba3 (g : Nat) : Env A := mkE [] [(14, [4]), (15, [5])] [] [] [] [] [] [] [] [1, 2, 3]
theorem sm_log_Pauses_1_ba3 (g : Nat) : Same (SS_log_Pauses_1_ba3 (@log_Pauses_1_ba3_ g)) (abody (E_log_Pauses_1_ba3 g) Tryz.f18 code_18 6 [0, 1, 2, 3] [] g) := by intro args; unfold SS_log_Pauses_1_ba3; split; exact .inr fun R k => (by kernel_rfl); exact .inl fun R k => rfl
theorem ok_log_Pauses_1_ba3 [Fuel] : Ok 18 (SS_log_Pauses_1_ba3 (@log_Pauses_1_ba3 _)) := okF_of std .nil ⟨rfl, rfl, by kernel_rfl, rfl, rfl, rfl⟩ (sm_log_Pauses_1_ba3 NN) (cuts0 (fun _ => rfl) (by kernel_rfl)) Tryz.func18 (by kernel_rfl) (by kernel_rfl)
end Go.Am
