/- The functions of the program as Lean functions, each shown to be what the code computes, part 4. No condition: lemmas for the claim. -/
import Derived.Test.YtocbeijefjbpgaaGreatDoorF0
import Derived.Test.YtocbeijefjbpgaaGreatDoorFSh
import Derived.Test.YtocbeijefjbpgaaGreatDoorF1
import Derived.Test.YtocbeijefjbpgaaGreatDoorF2
import Derived.Test.YtocbeijefjbpgaaGreatDoorF3
set_option linter.unusedVariables false
set_option maxRecDepth 100000
namespace Go.Am
open Go Go.Proofs
abbrev T_call_isDigit : Type 1 := Int → {R : Type} → (Bool → Option R) → Option R
def call_isDigit_ (g : Nat) (a1 : Int) {R : Type} (k0 : Bool → Option R) : Option R :=
 (bif (decide (a1 ≥ 48)) then k0 (decide (a1 ≤ 57)) else k0 false)
noncomputable def call_isDigit [Fuel] : T_call_isDigit := @call_isDigit_ NN
def SS_call_isDigit (g : T_call_isDigit) : Spec A := fun args => match args with | [.d (.int .u8 a1)] => fun k => g a1 (fun z0 => k (.d (.bool z0)) [.undef]) | _ => fun _ => none
noncomputable def code_153 : Code := (Tryz.f153.body).getD .skip
noncomputable def E_call_isDigit (g : Nat) : Env A := mkE [] [] [] [] [] [] [] [] [] []
theorem sm_call_isDigit (g : Nat) : Same (SS_call_isDigit (@call_isDigit_ g)) (abody (E_call_isDigit g) Tryz.f153 code_153 0 [] [.asis] g) := by intro args; unfold SS_call_isDigit; split; exact .inr fun R k => (by kernel_rfl); exact .inl fun R k => rfl
theorem ok_call_isDigit [Fuel] : Ok 153 (SS_call_isDigit (@call_isDigit _)) := okF_of std .nil ⟨rfl, rfl, by kernel_rfl, rfl, rfl, rfl⟩ (sm_call_isDigit NN) (cuts0 (fun _ => rfl) (by kernel_rfl)) Tryz.func153 (by kernel_rfl) (by kernel_rfl)
abbrev T_call_isPlain : Type 1 := List UInt8 → {R : Type} → (Int → Bool → Option R) → Option R
structure C_call_isPlain where
 N : Nat
 call_isDigit : T_call_isDigit
 call_isLetter : T_call_isLetter
def call_isPlain_L2 (g : C_call_isPlain) : Nat → List UInt8 → Int → Int → Int → {R : Type} → (Int → Bool → Option R) → (Int → Option R) → Option R
 | 0, _, _, _, _, _, _, _ => none
 | n + 1, v2, v3, v4, v5, _, e0, e1 => (bif (decide (v5 < v4)) then (get_ v2 v5 fun x10 => (g.call_isLetter (x10.toNat : Int) (fun r11 => (bif r11 then call_isPlain_L2 g n v2 (w64 (v3 + 1)) v4 (w64 (v5 + 1)) e0 e1 else (get_ v2 v5 fun x12 => (g.call_isDigit (x12.toNat : Int) (fun r13 => (bif (!r13) then e0 0 false else call_isPlain_L2 g n v2 v3 v4 (w64 (v5 + 1)) e0 e1)))))))) else e1 v3)
def call_isPlain_ (g : C_call_isPlain) (a1 : List UInt8) {R : Type} (k0 : Int → Bool → Option R) : Option R :=
 (call_isPlain_L2 g g.N a1 0 (a1.length : Int) 0 (fun e14 e15 => k0 e14 e15) (fun e16 => k0 e16 true))
noncomputable def I_call_isPlain [Fuel] : C_call_isPlain := ⟨NN, @call_isDigit _, @call_isLetter _⟩
noncomputable def call_isPlain [Fuel] : T_call_isPlain := @call_isPlain_ I_call_isPlain
def SS_call_isPlain (g : T_call_isPlain) : Spec A := fun args => match args with | [.d (.str a1)] => fun k => g a1 (fun z0 z1 => k (.tup [.d (.int .i64 z0), .d (.bool z1)]) [.undef]) | _ => fun _ => none
def sh_call_isPlain_L2 : SSt := mkSh 25 0 [(0, .str), (2, .int .i64), (6, .int .i64), (7, .int .i64)] []
def LP_call_isPlain_L2 (g : C_call_isPlain) (n : Nat) : LPT A := fun ps => match ps with | [.d (.str p1), .d (.int .i64 p2), .d (.int .i64 p3), .d (.int .i64 p4)] => fun K => call_isPlain_L2 g n p1 p2 p3 p4 (fun z0 z1 => K .ret (mkSt 25 0 [(2, .d (.int .i64 z0)), (3, .d (.bool z1))] [])) (fun z0 => K (.exit 0) (mkSt 25 0 [(2, .d (.int .i64 z0))] [])) | _ => fun _ => none
noncomputable def code_152 : Code := (Tryz.f152.body).getD .skip
noncomputable def E_call_isPlain (g : C_call_isPlain) : Env A := mkE [(153, SS_call_isDigit g.call_isDigit), (184, SS_call_isLetter g.call_isLetter)] [] [(2, ⟨[0, 2, 6, 7], [], [], []⟩)] [(2, ⟨[2, 3], [], [], []⟩)] [(2, pieceOf sh_call_isPlain_L2 (LP_call_isPlain_L2 g g.N))] [] [] [] [] []
theorem ct_call_isPlain [Fuel] : NatTab (E_call_isPlain I_call_isPlain).C := ct_of (P := Tryz.prog) (T := T) (.cons ok_call_isDigit (.cons ok_call_isLetter .nil)) (by kernel_rfl)
noncomputable def cb_call_isPlain_L2 : Code := sub [1, 0, 1, 0, 0] code_152
theorem s_call_isPlain_L2 (g : C_call_isPlain) (n : Nat) : StepOk (E_call_isPlain g) g.N cb_call_isPlain_L2 sh_call_isPlain_L2 (LP_call_isPlain_L2 g) n := by intro ps; unfold LP_call_isPlain_L2; split; exact .inr fun R K => (by kernel_rfl); exact .inl fun R K => rfl
theorem lf_call_isPlain_L2 [Fuel] : LoopFine (E_call_isPlain I_call_isPlain) NN cb_call_isPlain_L2 := fine_loop sh_call_isPlain_L2 (LP_call_isPlain_L2 I_call_isPlain) (by kernel_rfl) ct_call_isPlain (cuts0 (fun _ => rfl) (by kernel_rfl)) (fun ps R K => by unfold LP_call_isPlain_L2; split <;> (try unfold call_isPlain_L2) <;> rfl) (s_call_isPlain_L2 I_call_isPlain)
theorem sm_call_isPlain (g : C_call_isPlain) : Same (SS_call_isPlain (@call_isPlain_ g)) (abody (E_call_isPlain g) Tryz.f152 code_152 0 [] [.asis, .asis] g.N) := by intro args; unfold SS_call_isPlain; split; exact .inr fun R k => (by kernel_rfl); exact .inl fun R k => rfl
theorem ok_call_isPlain [Fuel] : Ok 152 (SS_call_isPlain (@call_isPlain _)) := okF_of std (.cons ok_call_isDigit (.cons ok_call_isLetter .nil)) ⟨rfl, rfl, by kernel_rfl, rfl, rfl, rfl⟩ (sm_call_isPlain I_call_isPlain) (cutsL (fun _ => rfl) (.cons lf_call_isPlain_L2 .nil) (by kernel_rfl)) Tryz.func152 (by kernel_rfl) (by kernel_rfl)
abbrev T_call_split : Type 1 := List UInt8 → {R : Type} → (Int → Bool → Option R) → Option R
structure C_call_split where
 N : Nat
 strings_LastIndexAny : T_strings_LastIndexAny
 call_isPlain : T_call_isPlain
def call_split_ (g : C_call_split) (a1 : List UInt8) {R : Type} (k0 : Int → Bool → Option R) : Option R :=
 (g.call_isPlain a1 (fun r2 r3 => (bif (!r3) then k0 0 false else (bif (decide ((a1.length : Int) > 10)) then k0 0 false else (g.strings_LastIndexAny a1 [48, 49, 50, 51, 52, 53, 54, 55, 56, 57] (fun r4 => (bif (decide (r4 < 1)) then k0 0 false else (bif (decide (r4 > 3)) then k0 0 false else (bif (decide ((w64 ((w64 ((a1.length : Int) - r4)) - 1)) < 1)) then k0 0 false else (bif (decide ((w64 ((w64 ((a1.length : Int) - r4)) - 1)) > 4)) then k0 0 false else (bif (decide (0 ≤ r4) && decide (r4 ≤ (a1.length : Int))) then (g.call_isPlain (a1.take (r4 : Int).toNat) (fun r5 r6 => k0 r4 (decide (r5 > 0)))) else none)))))))))))
noncomputable def I_call_split [Fuel] : C_call_split := ⟨NN, @strings_LastIndexAny _, @call_isPlain _⟩
noncomputable def call_split [Fuel] : T_call_split := @call_split_ I_call_split
def SS_call_split (g : T_call_split) : Spec A := fun args => match args with | [.d (.str a1)] => fun k => g a1 (fun z0 z1 => k (.tup [.d (.int .i64 z0), .d (.bool z1)]) [.undef]) | _ => fun _ => none
noncomputable def code_151 : Code := (Tryz.f151.body).getD .skip
noncomputable def E_call_split (g : C_call_split) : Env A := mkE [(108, SS_strings_LastIndexAny g.strings_LastIndexAny), (152, SS_call_isPlain g.call_isPlain)] [] [] [] [] [] [] [] [] []
theorem sm_call_split (g : C_call_split) : Same (SS_call_split (@call_split_ g)) (abody (E_call_split g) Tryz.f151 code_151 0 [] [.asis, .asis] g.N) := by intro args; unfold SS_call_split; split; exact .inr fun R k => (by kernel_rfl); exact .inl fun R k => rfl
theorem ok_call_split [Fuel] : Ok 151 (SS_call_split (@call_split _)) := okF_of std (.cons ok_strings_LastIndexAny (.cons ok_call_isPlain .nil)) ⟨rfl, rfl, by kernel_rfl, rfl, rfl, rfl⟩ (sm_call_split I_call_split) (cuts0 (fun _ => rfl) (by kernel_rfl)) Tryz.func151 (by kernel_rfl) (by kernel_rfl)
abbrev T_call_based : Type 1 := List UInt8 → {R : Type} → (G_Parts → Bool → Option R) → Option R
structure C_call_based where
 N : Nat
 call_split : T_call_split
def call_based_ (g : C_call_based) (a1 : List UInt8) {R : Type} (k0 : G_Parts → Bool → Option R) : Option R :=
 (g.call_split a1 (fun r2 r3 => (bif (!r3) then k0 (⟨[], [], [], 0, []⟩ : G_Parts) false else (bif (decide (0 ≤ (w64 (r2 + 1))) && decide ((w64 (r2 + 1)) ≤ (a1.length : Int))) then (bif (decide (0 ≤ (w64 (r2 + 1))) && decide ((w64 (r2 + 1)) ≤ (a1.length : Int))) then k0 (⟨a1, (a1.take ((w64 (r2 + 1)) : Int).toNat), (a1.drop ((w64 (r2 + 1)) : Int).toNat), 0, []⟩ : G_Parts) true else none) else none))))
noncomputable def I_call_based [Fuel] : C_call_based := ⟨NN, @call_split _⟩
noncomputable def call_based [Fuel] : T_call_based := @call_based_ I_call_based
def SS_call_based (g : T_call_based) : Spec A := fun args => match args with | [.d (.str a1)] => fun k => g a1 (fun z0 z1 => k (.tup [.agg [.d (.str z0.f_Base), .d (.str z0.f_Prefix), .d (.str z0.f_Suffix), .d (.int .i64 z0.f_Kind), .d (.str z0.f_Added)], .d (.bool z1)]) [.undef]) | _ => fun _ => none
noncomputable def code_120 : Code := (Tryz.f120.body).getD .skip
noncomputable def E_call_based (g : C_call_based) : Env A := mkE [(151, SS_call_split g.call_split)] [(2, [0])] [] [] [] [] [] [] [] []
theorem sm_call_based (g : C_call_based) : Same (SS_call_based (@call_based_ g)) (abody (E_call_based g) Tryz.f120 code_120 1 [] [.asis, .asis] g.N) := by intro args; unfold SS_call_based; split; exact .inr fun R k => (by kernel_rfl); exact .inl fun R k => rfl
theorem ok_call_based [Fuel] : Ok 120 (SS_call_based (@call_based _)) := okF_of std (.cons ok_call_split .nil) ⟨rfl, rfl, by kernel_rfl, rfl, rfl, rfl⟩ (sm_call_based I_call_based) (cuts0 (fun _ => rfl) (by kernel_rfl)) Tryz.func120 (by kernel_rfl) (by kernel_rfl)
abbrev T_call_isBegin : Type 1 := List UInt8 → {R : Type} → (Bool → Option R) → Option R
structure C_call_isBegin where
 N : Nat
 call_isPlain : T_call_isPlain
def call_isBegin_ (g : C_call_isBegin) (a1 : List UInt8) {R : Type} (k0 : Bool → Option R) : Option R :=
 (g.call_isPlain a1 (fun r2 r3 => (bif r3 then (bif (decide (r2 > 0)) then k0 (decide ((a1.length : Int) ≤ 4)) else k0 false) else k0 false)))
noncomputable def I_call_isBegin [Fuel] : C_call_isBegin := ⟨NN, @call_isPlain _⟩
noncomputable def call_isBegin [Fuel] : T_call_isBegin := @call_isBegin_ I_call_isBegin
def SS_call_isBegin (g : T_call_isBegin) : Spec A := fun args => match args with | [.d (.str a1)] => fun k => g a1 (fun z0 => k (.d (.bool z0)) [.undef]) | _ => fun _ => none
noncomputable def code_121 : Code := (Tryz.f121.body).getD .skip
noncomputable def E_call_isBegin (g : C_call_isBegin) : Env A := mkE [(152, SS_call_isPlain g.call_isPlain)] [] [] [] [] [] [] [] [] []
theorem sm_call_isBegin (g : C_call_isBegin) : Same (SS_call_isBegin (@call_isBegin_ g)) (abody (E_call_isBegin g) Tryz.f121 code_121 0 [] [.asis] g.N) := by intro args; unfold SS_call_isBegin; split; exact .inr fun R k => (by kernel_rfl); exact .inl fun R k => rfl
theorem ok_call_isBegin [Fuel] : Ok 121 (SS_call_isBegin (@call_isBegin _)) := okF_of std (.cons ok_call_isPlain .nil) ⟨rfl, rfl, by kernel_rfl, rfl, rfl, rfl⟩ (sm_call_isBegin I_call_isBegin) (cuts0 (fun _ => rfl) (by kernel_rfl)) Tryz.func121 (by kernel_rfl) (by kernel_rfl)
abbrev T_call_tail : Type 1 := List UInt8 → {R : Type} → (Int → List UInt8 → Bool → Option R) → Option R
structure C_call_tail where
 N : Nat
 call_isBegin : T_call_isBegin
 call_isDigit : T_call_isDigit
def call_tail_ (g : C_call_tail) (a1 : List UInt8) {R : Type} (k0 : Int → List UInt8 → Bool → Option R) : Option R :=
 (bif (a1 == [112]) then k0 3 [] true else (bif (a1 == [109]) then k0 4 [] true else (bif (a1 == [109, 109]) then k0 5 [] true else (bif (a1 == [97, 109]) then k0 6 [] true else (bif ((a1.length : Int) == 1) then (at_ a1 0 fun x2 => (g.call_isDigit (x2.toNat : Int) (fun r3 => (bif r3 then k0 2 a1 true else (g.call_isBegin a1 (fun r4 => k0 1 a1 r4)))))) else (g.call_isBegin a1 (fun r5 => k0 1 a1 r5)))))))
noncomputable def I_call_tail [Fuel] : C_call_tail := ⟨NN, @call_isBegin _, @call_isDigit _⟩
noncomputable def call_tail [Fuel] : T_call_tail := @call_tail_ I_call_tail
def SS_call_tail (g : T_call_tail) : Spec A := fun args => match args with | [.d (.str a1)] => fun k => g a1 (fun z0 z1 z2 => k (.tup [.d (.int .i64 z0), .d (.str z1), .d (.bool z2)]) [.undef]) | _ => fun _ => none
noncomputable def code_122 : Code := (Tryz.f122.body).getD .skip
noncomputable def E_call_tail (g : C_call_tail) : Env A := mkE [(121, SS_call_isBegin g.call_isBegin), (153, SS_call_isDigit g.call_isDigit)] [] [] [] [] [] [] [] [] []
theorem sm_call_tail (g : C_call_tail) : Same (SS_call_tail (@call_tail_ g)) (abody (E_call_tail g) Tryz.f122 code_122 0 [] [.asis, .asis, .asis] g.N) := by intro args; unfold SS_call_tail; split; exact .inr fun R k => (by kernel_rfl); exact .inl fun R k => rfl
theorem ok_call_tail [Fuel] : Ok 122 (SS_call_tail (@call_tail _)) := okF_of std (.cons ok_call_isBegin (.cons ok_call_isDigit .nil)) ⟨rfl, rfl, by kernel_rfl, rfl, rfl, rfl⟩ (sm_call_tail I_call_tail) (cuts0 (fun _ => rfl) (by kernel_rfl)) Tryz.func122 (by kernel_rfl) (by kernel_rfl)
abbrev T_call_Parts : Type 1 := List UInt8 → {R : Type} → (G_Parts → Bool → Option R) → Option R
structure C_call_Parts where
 N : Nat
 strings_Cut : T_strings_Cut
 call_based : T_call_based
 call_isBegin : T_call_isBegin
 call_tail : T_call_tail
def call_Parts_ (g : C_call_Parts) (a1 : List UInt8) {R : Type} (k0 : G_Parts → Bool → Option R) : Option R :=
 (bif (decide ((a1.length : Int) > 14)) then k0 (⟨[], [], [], 0, []⟩ : G_Parts) false else (g.call_based a1 (fun r2 r3 => (bif r3 then k0 r2 true else (g.strings_Cut a1 [47] (fun r4 r5 r6 => (bif (!r6) then k0 (⟨[], [], [], 0, []⟩ : G_Parts) false else (g.call_based r5 (fun r7 r8 => (bif r8 then (g.call_isBegin r4 (fun r9 => (bif r9 then k0 (⟨r7.f_Base, r7.f_Prefix, r7.f_Suffix, 1, r4⟩ : G_Parts) true else (g.call_based r4 (fun r10 r11 => (g.call_tail r5 (fun r12 r13 r14 => (bif (!r11) then k0 (⟨[], [], [], 0, []⟩ : G_Parts) false else (bif (!r14) then k0 (⟨[], [], [], 0, []⟩ : G_Parts) false else k0 (⟨r10.f_Base, r10.f_Prefix, r10.f_Suffix, r12, r13⟩ : G_Parts) true))))))))) else (g.call_based r4 (fun r15 r16 => (g.call_tail r5 (fun r17 r18 r19 => (bif (!r16) then k0 (⟨[], [], [], 0, []⟩ : G_Parts) false else (bif (!r19) then k0 (⟨[], [], [], 0, []⟩ : G_Parts) false else k0 (⟨r15.f_Base, r15.f_Prefix, r15.f_Suffix, r17, r18⟩ : G_Parts) true))))))))))))))))
noncomputable def I_call_Parts [Fuel] : C_call_Parts := ⟨NN, @strings_Cut _, @call_based _, @call_isBegin _, @call_tail _⟩
noncomputable def call_Parts [Fuel] : T_call_Parts := @call_Parts_ I_call_Parts
def SS_call_Parts (g : T_call_Parts) : Spec A := fun args => match args with | [.d (.str a1)] => fun k => g a1 (fun z0 z1 => k (.tup [.agg [.d (.str z0.f_Base), .d (.str z0.f_Prefix), .d (.str z0.f_Suffix), .d (.int .i64 z0.f_Kind), .d (.str z0.f_Added)], .d (.bool z1)]) [.undef]) | _ => fun _ => none
noncomputable def code_88 : Code := (Tryz.f88.body).getD .skip
noncomputable def E_call_Parts (g : C_call_Parts) : Env A := mkE [(70, SS_strings_Cut g.strings_Cut), (120, SS_call_based g.call_based), (121, SS_call_isBegin g.call_isBegin), (122, SS_call_tail g.call_tail)] [(2, [0]), (4, [1]), (9, [2]), (11, [3])] [] [] [] [] [] [] [] []
theorem sm_call_Parts (g : C_call_Parts) : Same (SS_call_Parts (@call_Parts_ g)) (abody (E_call_Parts g) Tryz.f88 code_88 4 [] [.asis, .asis] g.N) := by intro args; unfold SS_call_Parts; split; exact .inr fun R k => (by kernel_rfl); exact .inl fun R k => rfl
theorem ok_call_Parts [Fuel] : Ok 88 (SS_call_Parts (@call_Parts _)) := okF_of std (.cons ok_strings_Cut (.cons ok_call_based (.cons ok_call_isBegin (.cons ok_call_tail .nil)))) ⟨rfl, rfl, by kernel_rfl, rfl, rfl, rfl⟩ (sm_call_Parts I_call_Parts) (cuts0 (fun _ => rfl) (by kernel_rfl)) Tryz.func88 (by kernel_rfl) (by kernel_rfl)
abbrev T_call_Is : Type 1 := List UInt8 → {R : Type} → (Bool → Option R) → Option R
structure C_call_Is where
 N : Nat
 call_Parts : T_call_Parts
def call_Is_ (g : C_call_Is) (a1 : List UInt8) {R : Type} (k0 : Bool → Option R) : Option R :=
 (g.call_Parts a1 (fun r2 r3 => k0 r3))
noncomputable def I_call_Is [Fuel] : C_call_Is := ⟨NN, @call_Parts _⟩
noncomputable def call_Is [Fuel] : T_call_Is := @call_Is_ I_call_Is
def SS_call_Is (g : T_call_Is) : Spec A := fun args => match args with | [.d (.str a1)] => fun k => g a1 (fun z0 => k (.d (.bool z0)) [.undef]) | _ => fun _ => none
noncomputable def code_52 : Code := (Tryz.f52.body).getD .skip
noncomputable def E_call_Is (g : C_call_Is) : Env A := mkE [(88, SS_call_Parts g.call_Parts)] [(3, [0])] [] [] [] [] [] [] [] []
theorem sm_call_Is (g : C_call_Is) : Same (SS_call_Is (@call_Is_ g)) (abody (E_call_Is g) Tryz.f52 code_52 1 [] [.asis] g.N) := by intro args; unfold SS_call_Is; split; exact .inr fun R k => (by kernel_rfl); exact .inl fun R k => rfl
theorem ok_call_Is [Fuel] : Ok 52 (SS_call_Is (@call_Is _)) := okF_of std (.cons ok_call_Parts .nil) ⟨rfl, rfl, by kernel_rfl, rfl, rfl, rfl⟩ (sm_call_Is I_call_Is) (cuts0 (fun _ => rfl) (by kernel_rfl)) Tryz.func52 (by kernel_rfl) (by kernel_rfl)
abbrev T_kit_IsName : Type 1 := List UInt8 → {R : Type} → (Bool → Option R) → Option R
structure C_kit_IsName where
 N : Nat
 kit_IsKey : T_kit_IsKey
def kit_IsName_ (g : C_kit_IsName) (a1 : List UInt8) {R : Type} (k0 : Bool → Option R) : Option R :=
 (bif (a1 == []) then k0 true else (g.kit_IsKey a1 (fun r2 => k0 r2)))
noncomputable def I_kit_IsName [Fuel] : C_kit_IsName := ⟨NN, @kit_IsKey _⟩
noncomputable def kit_IsName [Fuel] : T_kit_IsName := @kit_IsName_ I_kit_IsName
def SS_kit_IsName (g : T_kit_IsName) : Spec A := fun args => match args with | [.d (.str a1)] => fun k => g a1 (fun z0 => k (.d (.bool z0)) [.undef]) | _ => fun _ => none
noncomputable def code_106 : Code := (Tryz.f106.body).getD .skip
noncomputable def E_kit_IsName (g : C_kit_IsName) : Env A := mkE [(28, SS_kit_IsKey g.kit_IsKey)] [] [] [] [] [] [] [] [] []
theorem sm_kit_IsName (g : C_kit_IsName) : Same (SS_kit_IsName (@kit_IsName_ g)) (abody (E_kit_IsName g) Tryz.f106 code_106 0 [] [.asis] g.N) := by intro args; unfold SS_kit_IsName; split; exact .inr fun R k => (by kernel_rfl); exact .inl fun R k => rfl
theorem ok_kit_IsName [Fuel] : Ok 106 (SS_kit_IsName (@kit_IsName _)) := okF_of std (.cons ok_kit_IsKey .nil) ⟨rfl, rfl, by kernel_rfl, rfl, rfl, rfl⟩ (sm_kit_IsName I_kit_IsName) (cuts0 (fun _ => rfl) (by kernel_rfl)) Tryz.func106 (by kernel_rfl) (by kernel_rfl)
abbrev T_log_CheckContact : Type 1 := G_Contact → {R : Type} → (Int → Option R) → Option R
structure C_log_CheckContact where
 N : Nat
 kit_IsKey : T_kit_IsKey
 kit_Outside : T_kit_Outside
 kit_IsMode : T_kit_IsMode
 kit_IsMoment : T_kit_IsMoment
 call_Is : T_call_Is
 kit_IsName : T_kit_IsName
def log_CheckContact_ (g : C_log_CheckContact) (a1 : G_Contact) {R : Type} (k0 : Int → Option R) : Option R :=
 (g.kit_IsMoment a1.f_At (fun r2 => (bif (!r2) then k0 1 else (g.kit_IsMode a1.f_Mode (fun r3 => (bif (!r3) then k0 4 else (g.kit_IsKey a1.f_Band (fun r4 => (bif (!r4) then k0 5 else (g.call_Is a1.f_Call (fun r5 => (bif (!r5) then k0 3 else (g.kit_Outside a1.f_Sent 0 99999 (fun r6 => (bif r6 then k0 1 else (g.kit_Outside a1.f_Heard 0 99999 (fun r7 => (bif r7 then k0 1 else (g.kit_IsName a1.f_Gave (fun r8 => (bif (!r8) then k0 5 else (g.kit_IsName a1.f_Got (fun r9 => (bif (!r9) then k0 5 else k0 0))))))))))))))))))))))))
noncomputable def I_log_CheckContact [Fuel] : C_log_CheckContact := ⟨NN, @kit_IsKey _, @kit_Outside _, @kit_IsMode _, @kit_IsMoment _, @call_Is _, @kit_IsName _⟩
noncomputable def log_CheckContact [Fuel] : T_log_CheckContact := @log_CheckContact_ I_log_CheckContact
def SS_log_CheckContact (g : T_log_CheckContact) : Spec A := fun args => match args with | [.agg [.d (.int .i64 a1), .d (.int .i64 a2), .d (.str a3), .d (.str a4), .d (.int .i64 a5), .d (.int .i64 a6), .d (.str a7), .d (.str a8)]] => fun k => g ⟨a1, a2, a3, a4, a5, a6, a7, a8⟩ (fun z0 => k (.d (.int .i64 z0)) [.undef]) | _ => fun _ => none
noncomputable def code_68 : Code := (Tryz.f68.body).getD .skip
noncomputable def E_log_CheckContact (g : C_log_CheckContact) : Env A := mkE [(28, SS_kit_IsKey g.kit_IsKey), (36, SS_kit_Outside g.kit_Outside), (44, SS_kit_IsMode g.kit_IsMode), (45, SS_kit_IsMoment g.kit_IsMoment), (52, SS_call_Is g.call_Is), (106, SS_kit_IsName g.kit_IsName)] [(1, [0])] [] [] [] [] [] [] [] []
theorem sm_log_CheckContact (g : C_log_CheckContact) : Same (SS_log_CheckContact (@log_CheckContact_ g)) (abody (E_log_CheckContact g) Tryz.f68 code_68 1 [] [.asis] g.N) := by intro args; unfold SS_log_CheckContact; split; exact .inr fun R k => (by kernel_rfl); exact .inl fun R k => rfl
theorem ok_log_CheckContact [Fuel] : Ok 68 (SS_log_CheckContact (@log_CheckContact _)) := okF_of std (.cons ok_kit_IsKey (.cons ok_kit_Outside (.cons ok_kit_IsMode (.cons ok_kit_IsMoment (.cons ok_call_Is (.cons ok_kit_IsName .nil)))))) ⟨rfl, rfl, by kernel_rfl, rfl, rfl, rfl⟩ (sm_log_CheckContact I_log_CheckContact) (cuts0 (fun _ => rfl) (by kernel_rfl)) Tryz.func68 (by kernel_rfl) (by kernel_rfl)
abbrev T_cmp_isNaN__int : Type 1 := Int → {R : Type} → (Bool → Option R) → Option R
def cmp_isNaN__int_ (g : Nat) (a1 : Int) {R : Type} (k0 : Bool → Option R) : Option R :=
 k0 (a1 != a1)
noncomputable def cmp_isNaN__int [Fuel] : T_cmp_isNaN__int := @cmp_isNaN__int_ NN
def SS_cmp_isNaN__int (g : T_cmp_isNaN__int) : Spec A := fun args => match args with | [.d (.int .i64 a1)] => fun k => g a1 (fun z0 => k (.d (.bool z0)) [.undef]) | _ => fun _ => none
noncomputable def code_101 : Code := (Tryz.f101.body).getD .skip
noncomputable def E_cmp_isNaN__int (g : Nat) : Env A := mkE [] [] [] [] [] [] [] [] [] []
theorem sm_cmp_isNaN__int (g : Nat) : Same (SS_cmp_isNaN__int (@cmp_isNaN__int_ g)) (abody (E_cmp_isNaN__int g) Tryz.f101 code_101 0 [] [.asis] g) := by intro args; unfold SS_cmp_isNaN__int; split; exact .inr fun R k => (by kernel_rfl); exact .inl fun R k => rfl
theorem ok_cmp_isNaN__int [Fuel] : Ok 101 (SS_cmp_isNaN__int (@cmp_isNaN__int _)) := okF_of std .nil ⟨rfl, rfl, by kernel_rfl, rfl, rfl, rfl⟩ (sm_cmp_isNaN__int NN) (cuts0 (fun _ => rfl) (by kernel_rfl)) Tryz.func101 (by kernel_rfl) (by kernel_rfl)
noncomputable def Ed_cmp_isNaN__int (g : Nat) : Env A := mkED [] [] [] [] [] [] [] [] [] []
theorem smd_cmp_isNaN__int (g : Nat) : Same (SS_cmp_isNaN__int (@cmp_isNaN__int_ g)) (abody (Ed_cmp_isNaN__int g) Tryz.f101 code_101 0 [] [.asis] g) := by intro args; unfold SS_cmp_isNaN__int; split; exact .inr fun R k => (by kernel_rfl); exact .inl fun R k => rfl
theorem okd_cmp_isNaN__int [Fuel] : OkD 101 (SS_cmp_isNaN__int (@cmp_isNaN__int _)) := okF_of stdD .nil ⟨rfl, rfl, by kernel_rfl, rfl, rfl, rfl⟩ (smd_cmp_isNaN__int NN) (cuts0 (fun _ => rfl) (by kernel_rfl)) Tryz.func101 (by kernel_rfl) (by kernel_rfl)
abbrev T_cmp_Compare__int : Type 1 := Int → Int → {R : Type} → (Int → Option R) → Option R
structure C_cmp_Compare__int where
 N : Nat
 cmp_isNaN__int : T_cmp_isNaN__int
def cmp_Compare__int_ (g : C_cmp_Compare__int) (a1 a2 : Int) {R : Type} (k0 : Int → Option R) : Option R :=
 (g.cmp_isNaN__int a1 (fun r3 => (g.cmp_isNaN__int a2 (fun r4 => (bif r3 then (bif r4 then k0 0 else k0 (-1)) else (bif r4 then k0 1 else (bif (decide (a1 < a2)) then k0 (-1) else (bif (decide (a1 > a2)) then k0 1 else k0 0))))))))
noncomputable def I_cmp_Compare__int [Fuel] : C_cmp_Compare__int := ⟨NN, @cmp_isNaN__int _⟩
noncomputable def cmp_Compare__int [Fuel] : T_cmp_Compare__int := @cmp_Compare__int_ I_cmp_Compare__int
def SS_cmp_Compare__int (g : T_cmp_Compare__int) : Spec A := fun args => match args with | [.d (.int .i64 a1), .d (.int .i64 a2)] => fun k => g a1 a2 (fun z0 => k (.d (.int .i64 z0)) [.undef, .undef]) | _ => fun _ => none
noncomputable def code_60 : Code := (Tryz.f60.body).getD .skip
noncomputable def E_cmp_Compare__int (g : C_cmp_Compare__int) : Env A := mkE [(101, SS_cmp_isNaN__int g.cmp_isNaN__int)] [] [] [] [] [] [] [] [] []
theorem sm_cmp_Compare__int (g : C_cmp_Compare__int) : Same (SS_cmp_Compare__int (@cmp_Compare__int_ g)) (abody (E_cmp_Compare__int g) Tryz.f60 code_60 0 [] [.asis] g.N) := by intro args; unfold SS_cmp_Compare__int; split; exact .inr fun R k => (by kernel_rfl); exact .inl fun R k => rfl
theorem ok_cmp_Compare__int [Fuel] : Ok 60 (SS_cmp_Compare__int (@cmp_Compare__int _)) := okF_of std (.cons ok_cmp_isNaN__int .nil) ⟨rfl, rfl, by kernel_rfl, rfl, rfl, rfl⟩ (sm_cmp_Compare__int I_cmp_Compare__int) (cuts0 (fun _ => rfl) (by kernel_rfl)) Tryz.func60 (by kernel_rfl) (by kernel_rfl)
noncomputable def Ed_cmp_Compare__int (g : C_cmp_Compare__int) : Env A := mkED [(101, SS_cmp_isNaN__int g.cmp_isNaN__int)] [] [] [] [] [] [] [] [] []
theorem smd_cmp_Compare__int (g : C_cmp_Compare__int) : Same (SS_cmp_Compare__int (@cmp_Compare__int_ g)) (abody (Ed_cmp_Compare__int g) Tryz.f60 code_60 0 [] [.asis] g.N) := by intro args; unfold SS_cmp_Compare__int; split; exact .inr fun R k => (by kernel_rfl); exact .inl fun R k => rfl
theorem okd_cmp_Compare__int [Fuel] : OkD 60 (SS_cmp_Compare__int (@cmp_Compare__int _)) := okF_of stdD (.cons okd_cmp_isNaN__int .nil) ⟨rfl, rfl, by kernel_rfl, rfl, rfl, rfl⟩ (smd_cmp_Compare__int I_cmp_Compare__int) (cuts0 (fun _ => rfl) (by kernel_rfl)) Tryz.func60 (by kernel_rfl) (by kernel_rfl)
abbrev T_cmp_Or__int : Type 1 := List Int → {R : Type} → (Int → Option R) → Option R
def cmp_Or__int_L3 (g : Nat) : Nat → Int → List Int → Int → Int → {R : Type} → (Int → Int → Option R) → (Int → Option R) → Option R
 | 0, _, _, _, _, _, _, _ => none
 | n + 1, v2, v3, v4, v5, _, e0, e1 => (bif (decide (v5 < v4)) then (get_ v3 v5 fun x7 => (bif (x7 != v2) then e0 x7 v2 else cmp_Or__int_L3 g n v2 v3 v4 (w64 (v5 + 1)) e0 e1)) else e1 v2)
def cmp_Or__int_ (g : Nat) (a1 : List Int) {R : Type} (k0 : Int → Option R) : Option R :=
 (cmp_Or__int_L3 g g 0 a1 (a1.length : Int) 0 (fun e8 e9 => k0 e8) (fun e10 => k0 e10))
noncomputable def cmp_Or__int [Fuel] : T_cmp_Or__int := @cmp_Or__int_ NN
def SS_cmp_Or__int (g : T_cmp_Or__int) : Spec A := fun args => match args with | [.d (.sl 3 a1)] => fun k => g a1 (fun z0 => k (.d (.int .i64 z0)) [.undef]) | _ => fun _ => none
def sh_cmp_Or__int_L3 : SSt := mkSh 18 0 [(3, .int .i64), (6, .sl 3), (7, .int .i64), (8, .int .i64)] []
def LP_cmp_Or__int_L3 (g : Nat) (n : Nat) : LPT A := fun ps => match ps with | [.d (.int .i64 p1), .d (.sl 3 p2), .d (.int .i64 p3), .d (.int .i64 p4)] => fun K => cmp_Or__int_L3 g n p1 p2 p3 p4 (fun z0 z1 => K .ret (mkSt 18 0 [(2, .d (.int .i64 z0)), (3, .d (.int .i64 z1))] [])) (fun z0 => K (.exit 0) (mkSt 18 0 [(3, .d (.int .i64 z0))] [])) | _ => fun _ => none
noncomputable def code_54 : Code := (Tryz.f54.body).getD .skip
noncomputable def E_cmp_Or__int (g : Nat) : Env A := mkE [] [] [(3, ⟨[3, 6, 7, 8], [], [], []⟩)] [(3, ⟨[2, 3], [], [], []⟩)] [(3, pieceOf sh_cmp_Or__int_L3 (LP_cmp_Or__int_L3 g g))] [] [] [] [] []
theorem ct_cmp_Or__int [Fuel] : NatTab (E_cmp_Or__int NN).C := ct_of (P := Tryz.prog) (T := T) .nil (by kernel_rfl)
noncomputable def cb_cmp_Or__int_L3 : Code := sub [1, 1, 0, 1, 0, 0] code_54
theorem s_cmp_Or__int_L3 (g : Nat) (n : Nat) : StepOk (E_cmp_Or__int g) g cb_cmp_Or__int_L3 sh_cmp_Or__int_L3 (LP_cmp_Or__int_L3 g) n := by intro ps; unfold LP_cmp_Or__int_L3; split; exact .inr fun R K => (by kernel_rfl); exact .inl fun R K => rfl
theorem lf_cmp_Or__int_L3 [Fuel] : LoopFine (E_cmp_Or__int NN) NN cb_cmp_Or__int_L3 := fine_loop sh_cmp_Or__int_L3 (LP_cmp_Or__int_L3 NN) (by kernel_rfl) ct_cmp_Or__int (cuts0 (fun _ => rfl) (by kernel_rfl)) (fun ps R K => by unfold LP_cmp_Or__int_L3; split <;> (try unfold cmp_Or__int_L3) <;> rfl) (s_cmp_Or__int_L3 NN)
theorem sm_cmp_Or__int (g : Nat) : Same (SS_cmp_Or__int (@cmp_Or__int_ g)) (abody (E_cmp_Or__int g) Tryz.f54 code_54 0 [] [.asis] g) := by intro args; unfold SS_cmp_Or__int; split; exact .inr fun R k => (by kernel_rfl); exact .inl fun R k => rfl
theorem ok_cmp_Or__int [Fuel] : Ok 54 (SS_cmp_Or__int (@cmp_Or__int _)) := okF_of std .nil ⟨rfl, rfl, by kernel_rfl, rfl, rfl, rfl⟩ (sm_cmp_Or__int NN) (cutsL (fun _ => rfl) (.cons lf_cmp_Or__int_L3 .nil) (by kernel_rfl)) Tryz.func54 (by kernel_rfl) (by kernel_rfl)
noncomputable def Ed_cmp_Or__int (g : Nat) : Env A := mkED [] [] [(3, ⟨[3, 6, 7, 8], [], [], []⟩)] [(3, ⟨[2, 3], [], [], []⟩)] [(3, pieceOf sh_cmp_Or__int_L3 (LP_cmp_Or__int_L3 g g))] [] [] [] [] []
theorem ctd_cmp_Or__int [Fuel] : NatTab (Ed_cmp_Or__int NN).C := ct_of (P := Tryz.prog) (T := TD) .nil (by kernel_rfl)
theorem sd_cmp_Or__int_L3 (g : Nat) (n : Nat) : StepOk (Ed_cmp_Or__int g) g cb_cmp_Or__int_L3 sh_cmp_Or__int_L3 (LP_cmp_Or__int_L3 g) n := by intro ps; unfold LP_cmp_Or__int_L3; split; exact .inr fun R K => (by kernel_rfl); exact .inl fun R K => rfl
theorem lfd_cmp_Or__int_L3 [Fuel] : LoopFine (Ed_cmp_Or__int NN) NN cb_cmp_Or__int_L3 := fine_loop sh_cmp_Or__int_L3 (LP_cmp_Or__int_L3 NN) (by kernel_rfl) ctd_cmp_Or__int (cuts0 (fun _ => rfl) (by kernel_rfl)) (fun ps R K => by unfold LP_cmp_Or__int_L3; split <;> (try unfold cmp_Or__int_L3) <;> rfl) (sd_cmp_Or__int_L3 NN)
theorem smd_cmp_Or__int (g : Nat) : Same (SS_cmp_Or__int (@cmp_Or__int_ g)) (abody (Ed_cmp_Or__int g) Tryz.f54 code_54 0 [] [.asis] g) := by intro args; unfold SS_cmp_Or__int; split; exact .inr fun R k => (by kernel_rfl); exact .inl fun R k => rfl
theorem okd_cmp_Or__int [Fuel] : OkD 54 (SS_cmp_Or__int (@cmp_Or__int _)) := okF_of stdD .nil ⟨rfl, rfl, by kernel_rfl, rfl, rfl, rfl⟩ (smd_cmp_Or__int NN) (cutsL (fun _ => rfl) (.cons lfd_cmp_Or__int_L3 .nil) (by kernel_rfl)) Tryz.func54 (by kernel_rfl) (by kernel_rfl)
abbrev T_log_Compare : Type 1 := G_Contact → G_Contact → {R : Type} → (Int → Option R) → Option R
structure C_log_Compare where
 N : Nat
 cmp_Or__int : T_cmp_Or__int
 strings_Compare : T_strings_Compare
 cmp_Compare__int : T_cmp_Compare__int
def log_Compare_ (g : C_log_Compare) (a1 a2 : G_Contact) {R : Type} (k0 : Int → Option R) : Option R :=
 (g.cmp_Compare__int a1.f_At a2.f_At (fun r3 => (g.strings_Compare a1.f_Call a2.f_Call (fun r4 => (g.strings_Compare a1.f_Band a2.f_Band (fun r5 => (g.cmp_Compare__int a1.f_Mode a2.f_Mode (fun r6 => (g.cmp_Or__int [r3, r4, r5, r6] (fun r7 => k0 r7))))))))))
noncomputable def I_log_Compare [Fuel] : C_log_Compare := ⟨NN, @cmp_Or__int _, @strings_Compare _, @cmp_Compare__int _⟩
noncomputable def log_Compare [Fuel] : T_log_Compare := @log_Compare_ I_log_Compare
def SS_log_Compare (g : T_log_Compare) : Spec A := fun args => match args with | [.agg [.d (.int .i64 a1), .d (.int .i64 a2), .d (.str a3), .d (.str a4), .d (.int .i64 a5), .d (.int .i64 a6), .d (.str a7), .d (.str a8)], .agg [.d (.int .i64 a9), .d (.int .i64 a10), .d (.str a11), .d (.str a12), .d (.int .i64 a13), .d (.int .i64 a14), .d (.str a15), .d (.str a16)]] => fun k => g ⟨a1, a2, a3, a4, a5, a6, a7, a8⟩ ⟨a9, a10, a11, a12, a13, a14, a15, a16⟩ (fun z0 => k (.d (.int .i64 z0)) [.undef, .undef]) | _ => fun _ => none
noncomputable def code_69 : Code := (Tryz.f69.body).getD .skip
noncomputable def E_log_Compare (g : C_log_Compare) : Env A := mkE [(54, SS_cmp_Or__int g.cmp_Or__int), (55, SS_strings_Compare g.strings_Compare), (60, SS_cmp_Compare__int g.cmp_Compare__int)] [(2, [0]), (3, [1]), (25, [2])] [] [] [] [] [] [] [] []
theorem sm_log_Compare (g : C_log_Compare) : Same (SS_log_Compare (@log_Compare_ g)) (abody (E_log_Compare g) Tryz.f69 code_69 3 [] [.asis] g.N) := by intro args; unfold SS_log_Compare; split; exact .inr fun R k => (by kernel_rfl); exact .inl fun R k => rfl
theorem ok_log_Compare [Fuel] : Ok 69 (SS_log_Compare (@log_Compare _)) := okF_of std (.cons ok_cmp_Or__int (.cons ok_strings_Compare (.cons ok_cmp_Compare__int .nil))) ⟨rfl, rfl, by kernel_rfl, rfl, rfl, rfl⟩ (sm_log_Compare I_log_Compare) (cuts0 (fun _ => rfl) (by kernel_rfl)) Tryz.func69 (by kernel_rfl) (by kernel_rfl)
noncomputable def Ed_log_Compare (g : C_log_Compare) : Env A := mkED [(54, SS_cmp_Or__int g.cmp_Or__int), (55, SS_strings_Compare g.strings_Compare), (60, SS_cmp_Compare__int g.cmp_Compare__int)] [(2, [0]), (3, [1]), (25, [2])] [] [] [] [] [] [] [] []
theorem smd_log_Compare (g : C_log_Compare) : Same (SS_log_Compare (@log_Compare_ g)) (abody (Ed_log_Compare g) Tryz.f69 code_69 3 [] [.asis] g.N) := by intro args; unfold SS_log_Compare; split; exact .inr fun R k => (by kernel_rfl); exact .inl fun R k => rfl
theorem okd_log_Compare [Fuel] : OkD 69 (SS_log_Compare (@log_Compare _)) := okF_of stdD (.cons okd_cmp_Or__int (.cons okd_strings_Compare (.cons okd_cmp_Compare__int .nil))) ⟨rfl, rfl, by kernel_rfl, rfl, rfl, rfl⟩ (smd_log_Compare I_log_Compare) (cuts0 (fun _ => rfl) (by kernel_rfl)) Tryz.func69 (by kernel_rfl) (by kernel_rfl)
abbrev T_log_CheckLog : Type 1 := List G_Contact → {R : Type} → (Int → Option R) → Option R
structure C_log_CheckLog where
 N : Nat
 log_CheckContact : T_log_CheckContact
 log_Compare : T_log_Compare
def log_CheckLog_L4 (g : C_log_CheckLog) : Nat → List G_Contact → List G_Contact → Int → Int → {R : Type} → (Int → Option R) → Option R → Option R
 | 0, _, _, _, _, _, _, _ => none
 | n + 1, v2, v3, v4, v5, _, e0, e1 => (bif (decide (v5 < v4)) then (get_ v3 v5 fun x10 => (g.log_CheckContact x10 (fun r11 => (bif (r11 != 0) then e0 r11 else (bif (decide (v5 > 0)) then (get_ v2 (w64 (v5 - 1)) fun x12 => (g.log_Compare x12 x10 (fun r13 => (bif (decide (r13 ≥ 0)) then e0 7 else log_CheckLog_L4 g n v2 v3 v4 (w64 (v5 + 1)) e0 e1)))) else log_CheckLog_L4 g n v2 v3 v4 (w64 (v5 + 1)) e0 e1))))) else e1)
def log_CheckLog_ (g : C_log_CheckLog) (a1 : List G_Contact) {R : Type} (k0 : Int → Option R) : Option R :=
 (bif (decide ((a1.length : Int) > 2000)) then k0 2 else (log_CheckLog_L4 g g.N a1 a1 (a1.length : Int) 0 (fun e14 => k0 e14) (k0 0)))
noncomputable def I_log_CheckLog [Fuel] : C_log_CheckLog := ⟨NN, @log_CheckContact _, @log_Compare _⟩
noncomputable def log_CheckLog [Fuel] : T_log_CheckLog := @log_CheckLog_ I_log_CheckLog
def SS_log_CheckLog (g : T_log_CheckLog) : Spec A := fun args => match args with | [.d (.sl 50 a1)] => fun k => g a1 (fun z0 => k (.d (.int .i64 z0)) [.undef]) | _ => fun _ => none
def sh_log_CheckLog_L4 : SSt := mkSh 34 1 [(0, .sl 50), (9, .sl 50), (10, .int .i64), (11, .int .i64)] []
def LP_log_CheckLog_L4 (g : C_log_CheckLog) (n : Nat) : LPT A := fun ps => match ps with | [.d (.sl 50 p1), .d (.sl 50 p2), .d (.int .i64 p3), .d (.int .i64 p4)] => fun K => log_CheckLog_L4 g n p1 p2 p3 p4 (fun z0 => K .ret (mkSt 34 1 [(2, .d (.int .i64 z0))] [])) (K (.exit 0) (mkSt 34 1 [] [])) | _ => fun _ => none
noncomputable def code_35 : Code := (Tryz.f35.body).getD .skip
noncomputable def E_log_CheckLog (g : C_log_CheckLog) : Env A := mkE [(68, SS_log_CheckContact g.log_CheckContact), (69, SS_log_Compare g.log_Compare)] [(4, [0])] [(4, ⟨[0, 9, 10, 11], [], [], []⟩)] [(4, ⟨[2], [], [], []⟩)] [(4, pieceOf sh_log_CheckLog_L4 (LP_log_CheckLog_L4 g g.N))] [] [] [] [] []
theorem ct_log_CheckLog [Fuel] : NatTab (E_log_CheckLog I_log_CheckLog).C := ct_of (P := Tryz.prog) (T := T) (.cons ok_log_CheckContact (.cons ok_log_Compare .nil)) (by kernel_rfl)
noncomputable def cb_log_CheckLog_L4 : Code := sub [1, 1, 0, 1, 0, 0] code_35
theorem s_log_CheckLog_L4 (g : C_log_CheckLog) (n : Nat) : StepOk (E_log_CheckLog g) g.N cb_log_CheckLog_L4 sh_log_CheckLog_L4 (LP_log_CheckLog_L4 g) n := by intro ps; unfold LP_log_CheckLog_L4; split; exact .inr fun R K => (by kernel_rfl); exact .inl fun R K => rfl
theorem lf_log_CheckLog_L4 [Fuel] : LoopFine (E_log_CheckLog I_log_CheckLog) NN cb_log_CheckLog_L4 := fine_loop sh_log_CheckLog_L4 (LP_log_CheckLog_L4 I_log_CheckLog) (by kernel_rfl) ct_log_CheckLog (cuts0 (fun _ => rfl) (by kernel_rfl)) (fun ps R K => by unfold LP_log_CheckLog_L4; split <;> (try unfold log_CheckLog_L4) <;> rfl) (s_log_CheckLog_L4 I_log_CheckLog)
theorem sm_log_CheckLog (g : C_log_CheckLog) : Same (SS_log_CheckLog (@log_CheckLog_ g)) (abody (E_log_CheckLog g) Tryz.f35 code_35 1 [] [.asis] g.N) := by intro args; unfold SS_log_CheckLog; split; exact .inr fun R k => (by kernel_rfl); exact .inl fun R k => rfl
theorem ok_log_CheckLog [Fuel] : Ok 35 (SS_log_CheckLog (@log_CheckLog _)) := okF_of std (.cons ok_log_CheckContact (.cons ok_log_Compare .nil)) ⟨rfl, rfl, by kernel_rfl, rfl, rfl, rfl⟩ (sm_log_CheckLog I_log_CheckLog) (cutsL (fun _ => rfl) (.cons lf_log_CheckLog_L4 .nil) (by kernel_rfl)) Tryz.func35 (by kernel_rfl) (by kernel_rfl)
abbrev T_log_Serials : Type 1 := List G_Contact → {R : Type} → (List G_Row → List Int → Int → Option R) → Option R
structure C_log_Serials where
 N : Nat
 log_CheckLog : T_log_CheckLog
def log_Serials_L7 (g : C_log_Serials) : Nat → Int → List G_Contact → Int → Int → List (Int × Int) → {R : Type} → (Int → List (Int × Int) → Option R) → Option R
 | 0, _, _, _, _, _, _, _ => none
 | n + 1, v3, v4, v5, v6, v7, _, e0 => (bif (decide (v6 < v5)) then (get_ v4 v6 fun x9 => log_Serials_L7 g n (if x9.f_Sent > v3 then x9.f_Sent else v3) v4 v5 (w64 (v6 + 1)) (mset_int_int x9.f_Sent (w64 (((mget_int_int x9.f_Sent v7).getD 0) + 1)) v7) e0) else e0 v3 v7)
def log_Serials_L15 (g : C_log_Serials) : Nat → Int → Int → List (Int × Int) → List G_Row → List Int → {R : Type} → (List G_Row → List Int → Option R) → Option R
 | 0, _, _, _, _, _, _, _ => none
 | n + 1, v12, v13, v14, v15, v16, _, e0 => (bif (decide (v13 ≤ v12)) then (bif (decide (((mget_int_int v13 v14).getD 0) > 1)) then (bif (decide ((v16.length + [v13].length) * 8 ≤ roomBytes')) then log_Serials_L15 g n v12 (w64 (v13 + 1)) v14 v15 (v16 ++ [v13]) e0 else none) else (bif (((mget_int_int v13 v14).getD 0) == 1) then log_Serials_L15 g n v12 (w64 (v13 + 1)) v14 v15 v16 e0 else (bif (decide ((v15.length : Int) > 0)) then (inr v15 (w64 ((v15.length : Int) - 1)) (at_ v15 (w64 ((v15.length : Int) - 1)) fun x20 => (bif (x20.f_To == v13) then (inr v15 (w64 ((v15.length : Int) - 1)) (at_ v15 (w64 ((v15.length : Int) - 1)) fun x21 => (inr v15 (w64 ((v15.length : Int) - 1)) (at_ v15 (w64 ((v15.length : Int) - 1)) fun x22 => log_Serials_L15 g n v12 (w64 (v13 + 1)) v14 (set_ v15 (w64 ((v15.length : Int) - 1)) (⟨x22.f_From, (w64 (x21.f_To + 1))⟩ : G_Row)) v16 e0)))) else (bif (decide ((v15.length + [(⟨v13, (w64 (v13 + 1))⟩ : G_Row)].length) * 16 ≤ roomBytes')) then log_Serials_L15 g n v12 (w64 (v13 + 1)) v14 (v15 ++ [(⟨v13, (w64 (v13 + 1))⟩ : G_Row)]) v16 e0 else none)))) else (bif (decide ((v15.length + [(⟨v13, (w64 (v13 + 1))⟩ : G_Row)].length) * 16 ≤ roomBytes')) then log_Serials_L15 g n v12 (w64 (v13 + 1)) v14 (v15 ++ [(⟨v13, (w64 (v13 + 1))⟩ : G_Row)]) v16 e0 else none)))) else e0 v15 v16)
def log_Serials_ (g : C_log_Serials) (a1 : List G_Contact) {R : Type} (k0 : List G_Row → List Int → Int → Option R) : Option R :=
 (g.log_CheckLog a1 (fun r2 => (bif (r2 != 0) then k0 [] [] r2 else (log_Serials_L7 g g.N 0 a1 (a1.length : Int) 0 [] (fun e10 e11 => (log_Serials_L15 g g.N e10 1 e11 [] [] (fun e23 e24 => k0 e23 e24 0)))))))
noncomputable def I_log_Serials [Fuel] : C_log_Serials := ⟨NN, @log_CheckLog _⟩
noncomputable def log_Serials [Fuel] : T_log_Serials := @log_Serials_ I_log_Serials
def SS_log_Serials (g : T_log_Serials) : Spec A := fun args => match args with | [.d (.sl 50 a1)] => fun k => g a1 (fun z0 z1 z2 => k (.tup [.arr 52 z0, .arr 3 z1, .d (.int .i64 z2)]) [.undef]) | _ => fun _ => none
def sh_log_Serials_L7 : SSt := mkSh 88 8 [(6, .mp 0), (7, .int .i64), (19, .sl 50), (20, .int .i64), (21, .int .i64)] [(0, .mp 3 3)]
def LP_log_Serials_L7 (g : C_log_Serials) (n : Nat) : LPT A := fun ps => match ps with | [.d (.int .i64 p1), .d (.sl 50 p2), .d (.int .i64 p3), .d (.int .i64 p4), .mp 3 3 p5] => fun K => log_Serials_L7 g n p1 p2 p3 p4 p5 (fun z0 z1 => K (.exit 0) (mkSt 88 8 [(6, .mp 0), (7, .d (.int .i64 z0))] [(0, some (.mp 3 3 z1))])) | _ => fun _ => none
def sh_log_Serials_L15 : SSt := mkSh 88 8 [(6, .mp 0), (7, .int .i64), (10, .own 52 2), (11, .own 3 3), (12, .int .i64)] [(0, .mp 3 3), (2, .row 52), (3, .row 3)]
def LP_log_Serials_L15 (g : C_log_Serials) (n : Nat) : LPT A := fun ps => match ps with | [.d (.int .i64 p1), .d (.int .i64 p2), .mp 3 3 p3, .d (.sl 52 p4), .d (.sl 3 p5)] => fun K => log_Serials_L15 g n p1 p2 p3 p4 p5 (fun z0 z1 => K (.exit 2) (mkSt 88 8 [(10, .own 52 2), (11, .own 3 3)] [(2, some (.row 52 z0)), (3, some (.row 3 z1))])) | _ => fun _ => none
noncomputable def code_12 : Code := (Tryz.f12.body).getD .skip
noncomputable def E_log_Serials (g : C_log_Serials) : Env A := mkE [(35, SS_log_CheckLog g.log_CheckLog)] [(9, [1]), (18, [0]), (45, [6]), (46, [7]), (54, [4]), (55, [5])] [(7, ⟨[6, 7, 19, 20, 21], [], [0], []⟩), (15, ⟨[6, 7, 10, 11, 12], [(10, 52, 2), (11, 3, 3)], [0], []⟩)] [(7, ⟨[6, 7], [], [0], []⟩), (15, ⟨[10, 11], [], [2, 3], []⟩)] [(7, pieceOf sh_log_Serials_L7 (LP_log_Serials_L7 g g.N)), (15, pieceOf sh_log_Serials_L15 (LP_log_Serials_L15 g g.N))] [] [] [] [] []
theorem ct_log_Serials [Fuel] : NatTab (E_log_Serials I_log_Serials).C := ct_of (P := Tryz.prog) (T := T) (.cons ok_log_CheckLog .nil) (by kernel_rfl)
noncomputable def cb_log_Serials_L7 : Code := sub [1, 1, 1, 1, 0, 1, 0, 0] code_12
theorem s_log_Serials_L7 (g : C_log_Serials) (n : Nat) : StepOk (E_log_Serials g) g.N cb_log_Serials_L7 sh_log_Serials_L7 (LP_log_Serials_L7 g) n := by intro ps; unfold LP_log_Serials_L7; split; exact .inr fun R K => (by kernel_rfl); exact .inl fun R K => rfl
theorem lf_log_Serials_L7 [Fuel] : LoopFine (E_log_Serials I_log_Serials) NN cb_log_Serials_L7 := fine_loop sh_log_Serials_L7 (LP_log_Serials_L7 I_log_Serials) (by kernel_rfl) ct_log_Serials (cuts0 (fun _ => rfl) (by kernel_rfl)) (fun ps R K => by unfold LP_log_Serials_L7; split <;> (try unfold log_Serials_L7) <;> rfl) (s_log_Serials_L7 I_log_Serials)
noncomputable def cb_log_Serials_L15 : Code := sub [1, 1, 1, 1, 1, 1, 1, 0, 1, 0, 0] code_12
theorem s_log_Serials_L15 (g : C_log_Serials) (n : Nat) : StepOk (E_log_Serials g) g.N cb_log_Serials_L15 sh_log_Serials_L15 (LP_log_Serials_L15 g) n := by intro ps; unfold LP_log_Serials_L15; split; exact .inr fun R K => (by kernel_rfl); exact .inl fun R K => rfl
theorem lf_log_Serials_L15 [Fuel] : LoopFine (E_log_Serials I_log_Serials) NN cb_log_Serials_L15 := fine_loop sh_log_Serials_L15 (LP_log_Serials_L15 I_log_Serials) (by kernel_rfl) ct_log_Serials (cuts0 (fun _ => rfl) (by kernel_rfl)) (fun ps R K => by unfold LP_log_Serials_L15; split <;> (try unfold log_Serials_L15) <;> rfl) (s_log_Serials_L15 I_log_Serials)
theorem sm_log_Serials (g : C_log_Serials) : Same (SS_log_Serials (@log_Serials_ g)) (abody (E_log_Serials g) Tryz.f12 code_12 8 [] [.arr 52, .arr 3, .asis] g.N) := by intro args; unfold SS_log_Serials; split; exact .inr fun R k => (by kernel_rfl); exact .inl fun R k => rfl
theorem ok_log_Serials [Fuel] : Ok 12 (SS_log_Serials (@log_Serials _)) := okF_of std (.cons ok_log_CheckLog .nil) ⟨rfl, rfl, by kernel_rfl, rfl, rfl, rfl⟩ (sm_log_Serials I_log_Serials) (cutsL (fun _ => rfl) (.cons lf_log_Serials_L7 (.cons lf_log_Serials_L15 .nil)) (by kernel_rfl)) Tryz.func12 (by kernel_rfl) (by kernel_rfl)
abbrev T_slices_Clone__Contact : Type 1 := List G_Contact → {R : Type} → (List G_Contact → Option R) → Option R
def slices_Clone__Contact [Fuel] : T_slices_Clone__Contact := @X_clone G_Contact 96
def SS_slices_Clone__Contact (g : T_slices_Clone__Contact) : Spec A := fun args => match args with | [.d (.sl 50 x1)] => fun k => g x1 (fun z => k (.arr 50 z) [.undef]) | _ => fun _ => none
theorem h1_slices_Clone__Contact [Fuel] (xs : List (A 50)) (R : Type) (k : IV A → List (IV A) → Option R) : SS_slices_Clone__Contact (@slices_Clone__Contact _) [.d (.sl 50 xs)] k = X_clone 96 xs (fun z => k (.arr 50 z) [.undef]) := by kernel_rfl
theorem h2_slices_Clone__Contact [Fuel] (args : List (IV A)) (R : Type) (k : IV A → List (IV A) → Option R) (h : ∀ xs : List (A 50), args ≠ [.d (.sl 50 xs)]) : SS_slices_Clone__Contact (@slices_Clone__Contact _) args k = none := by unfold SS_slices_Clone__Contact; split; exact absurd rfl (h _); rfl
theorem ok_slices_Clone__Contact [Fuel] : Ok 37 (SS_slices_Clone__Contact (@slices_Clone__Contact _)) := ⟨clone_fs (clone_sound rfl (tyOk Tryz.prog) (e := 50) (size := 8) (bytes := 96) (ty := 50) (by kernel_rfl) (fun n c w => AnyE.slices_Clone_nil Tryz.clone37 n c w) (fun b off n c news w h1 h2 h3 h4 h5 => AnyE.slices_Clone Tryz.clone37 Tryz.ti50 Tryz.zv50 8 96 (by kernel_rfl) (by kernel_rfl) (by kernel_rfl) (by kernel_rfl) (by kernel_rfl) (by decide) Tryz.sizeOf50 b off n c news w h1 h2 h3 h4 h5)) h1_slices_Clone__Contact h2_slices_Clone__Contact, clone_na h1_slices_Clone__Contact h2_slices_Clone__Contact, enters_of (fn := Tryz.f37) Tryz.func37 (by kernel_rfl) (by kernel_rfl)⟩
end Go.Am
