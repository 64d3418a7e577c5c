/- The functions of the program as Lean functions, each shown to be what the code computes, part 4. No condition: lemmas for the claim. -/
import Derived.Test.YtonhhbcacemaiaaGreatDoorF0
import Derived.Test.YtonhhbcacemaiaaGreatDoorFSh
import Derived.Test.YtonhhbcacemaiaaGreatDoorF1
import Derived.Test.YtonhhbcacemaiaaGreatDoorF2
import Derived.Test.YtonhhbcacemaiaaGreatDoorF3
set_option linter.unusedVariables false
set_option maxRecDepth 100000
namespace Go.Am
open Go Go.Proofs
abbrev T_call_isPlain : Type 1 := List UInt8 → {R : Type} → (Int → Bool → Option R) → Option R
structure C_call_isPlain where
 N : Nat
 call_isDigit : T_call_isDigit
 call_isLetter : T_call_isLetter
def call_isPlain_L2 (g : C_call_isPlain) : Nat → List UInt8 → Int → Int → Int → {R : Type} → (Int → Bool → Option R) → (Int → Option R) → Option R
 | 0, _, _, _, _, _, _, _ => none
 | n + 1, v2, v3, v4, v5, _, e0, e1 => (bif (decide (v5 < v4)) then (get_ v2 v5 fun x10 => (g.call_isLetter (x10.toNat : Int) (fun r11 => (bif r11 then call_isPlain_L2 g n v2 (w64 (v3 + 1)) v4 (w64 (v5 + 1)) e0 e1 else (get_ v2 v5 fun x12 => (g.call_isDigit (x12.toNat : Int) (fun r13 => (bif (!r13) then e0 0 false else call_isPlain_L2 g n v2 v3 v4 (w64 (v5 + 1)) e0 e1)))))))) else e1 v3)
def call_isPlain_ (g : C_call_isPlain) (a1 : List UInt8) {R : Type} (k0 : Int → Bool → Option R) : Option R :=
 (call_isPlain_L2 g g.N a1 0 (a1.length : Int) 0 (fun e14 e15 => k0 e14 e15) (fun e16 => k0 e16 true))
noncomputable def I_call_isPlain [Fuel] : C_call_isPlain := ⟨NN, @call_isDigit _, @call_isLetter _⟩
noncomputable def call_isPlain [Fuel] : T_call_isPlain := @call_isPlain_ I_call_isPlain
def SS_call_isPlain (g : T_call_isPlain) : Spec A := fun args => match args with | [.d (.str a1)] => fun k => g a1 (fun z0 z1 => k (.tup [.d (.int .i64 z0), .d (.bool z1)]) [.undef]) | _ => fun _ => none
def sh_call_isPlain_L2 : SSt := mkSh 25 0 [(0, .str), (2, .int .i64), (6, .int .i64), (7, .int .i64)] []
def LP_call_isPlain_L2 (g : C_call_isPlain) (n : Nat) : LPT A := fun ps => match ps with | [.d (.str p1), .d (.int .i64 p2), .d (.int .i64 p3), .d (.int .i64 p4)] => fun K => call_isPlain_L2 g n p1 p2 p3 p4 (fun z0 z1 => K .ret (mkSt 25 0 [(2, .d (.int .i64 z0)), (3, .d (.bool z1))] [])) (fun z0 => K (.exit 0) (mkSt 25 0 [(2, .d (.int .i64 z0))] [])) | _ => fun _ => none
noncomputable def code_248 : Code := (Tryz.f248.body).getD .skip
noncomputable def E_call_isPlain (g : C_call_isPlain) : Env A := mkE [(249, SS_call_isDigit g.call_isDigit), (288, SS_call_isLetter g.call_isLetter)] [] [(2, ⟨[0, 2, 6, 7], [], [], []⟩)] [(2, ⟨[2, 3], [], [], []⟩)] [(2, pieceOf sh_call_isPlain_L2 (LP_call_isPlain_L2 g g.N))] [] [] [] [] []
theorem ct_call_isPlain [Fuel] : NatTab (E_call_isPlain I_call_isPlain).C := ct_of (P := Tryz.prog) (T := T) (.cons ok_call_isDigit (.cons ok_call_isLetter .nil)) (by kernel_rfl)
noncomputable def cb_call_isPlain_L2 : Code := sub [1, 0, 1, 0, 0] code_248
theorem s_call_isPlain_L2 (g : C_call_isPlain) (n : Nat) : StepOk (E_call_isPlain g) g.N cb_call_isPlain_L2 sh_call_isPlain_L2 (LP_call_isPlain_L2 g) n := by intro ps; unfold LP_call_isPlain_L2; split; exact .inr fun R K => (by kernel_rfl); exact .inl fun R K => rfl
theorem lf_call_isPlain_L2 [Fuel] : LoopFine (E_call_isPlain I_call_isPlain) NN cb_call_isPlain_L2 := fine_loop sh_call_isPlain_L2 (LP_call_isPlain_L2 I_call_isPlain) (by kernel_rfl) ct_call_isPlain (cuts0 (fun _ => rfl) (by kernel_rfl)) (fun ps R K => by unfold LP_call_isPlain_L2; split <;> (try unfold call_isPlain_L2) <;> rfl) (s_call_isPlain_L2 I_call_isPlain)
theorem sm_call_isPlain (g : C_call_isPlain) : Same (SS_call_isPlain (@call_isPlain_ g)) (abody (E_call_isPlain g) Tryz.f248 code_248 0 [] [.asis, .asis] g.N) := by intro args; unfold SS_call_isPlain; split; exact .inr fun R k => (by kernel_rfl); exact .inl fun R k => rfl
theorem ok_call_isPlain [Fuel] : Ok 248 (SS_call_isPlain (@call_isPlain _)) := okF_of std (.cons ok_call_isDigit (.cons ok_call_isLetter .nil)) ⟨rfl, rfl, by kernel_rfl, rfl, rfl, rfl⟩ (sm_call_isPlain I_call_isPlain) (cutsL (fun _ => rfl) (.cons lf_call_isPlain_L2 .nil) (by kernel_rfl)) Tryz.func248 (by kernel_rfl) (by kernel_rfl)
abbrev T_call_split : Type 1 := List UInt8 → {R : Type} → (Int → Bool → Option R) → Option R
structure C_call_split where
 N : Nat
 strings_LastIndexAny : T_strings_LastIndexAny
 call_isPlain : T_call_isPlain
def call_split_ (g : C_call_split) (a1 : List UInt8) {R : Type} (k0 : Int → Bool → Option R) : Option R :=
 (g.call_isPlain a1 (fun r2 r3 => (bif (!r3) then k0 0 false else (bif (decide ((a1.length : Int) > 10)) then k0 0 false else (g.strings_LastIndexAny a1 [48, 49, 50, 51, 52, 53, 54, 55, 56, 57] (fun r4 => (bif (decide (r4 < 1)) then k0 0 false else (bif (decide (r4 > 3)) then k0 0 false else (bif (decide ((w64 ((w64 ((a1.length : Int) - r4)) - 1)) < 1)) then k0 0 false else (bif (decide ((w64 ((w64 ((a1.length : Int) - r4)) - 1)) > 4)) then k0 0 false else (bif (decide (0 ≤ r4) && decide (r4 ≤ (a1.length : Int))) then (g.call_isPlain (a1.take (r4 : Int).toNat) (fun r5 r6 => k0 r4 (decide (r5 > 0)))) else none)))))))))))
noncomputable def I_call_split [Fuel] : C_call_split := ⟨NN, @strings_LastIndexAny _, @call_isPlain _⟩
noncomputable def call_split [Fuel] : T_call_split := @call_split_ I_call_split
def SS_call_split (g : T_call_split) : Spec A := fun args => match args with | [.d (.str a1)] => fun k => g a1 (fun z0 z1 => k (.tup [.d (.int .i64 z0), .d (.bool z1)]) [.undef]) | _ => fun _ => none
noncomputable def code_247 : Code := (Tryz.f247.body).getD .skip
noncomputable def E_call_split (g : C_call_split) : Env A := mkE [(194, SS_strings_LastIndexAny g.strings_LastIndexAny), (248, SS_call_isPlain g.call_isPlain)] [] [] [] [] [] [] [] [] []
theorem sm_call_split (g : C_call_split) : Same (SS_call_split (@call_split_ g)) (abody (E_call_split g) Tryz.f247 code_247 0 [] [.asis, .asis] g.N) := by intro args; unfold SS_call_split; split; exact .inr fun R k => (by kernel_rfl); exact .inl fun R k => rfl
theorem ok_call_split [Fuel] : Ok 247 (SS_call_split (@call_split _)) := okF_of std (.cons ok_strings_LastIndexAny (.cons ok_call_isPlain .nil)) ⟨rfl, rfl, by kernel_rfl, rfl, rfl, rfl⟩ (sm_call_split I_call_split) (cuts0 (fun _ => rfl) (by kernel_rfl)) Tryz.func247 (by kernel_rfl) (by kernel_rfl)
abbrev T_call_based : Type 1 := List UInt8 → {R : Type} → (G_Parts → Bool → Option R) → Option R
structure C_call_based where
 N : Nat
 call_split : T_call_split
def call_based_ (g : C_call_based) (a1 : List UInt8) {R : Type} (k0 : G_Parts → Bool → Option R) : Option R :=
 (g.call_split a1 (fun r2 r3 => (bif (!r3) then k0 (⟨[], [], [], 0, []⟩ : G_Parts) false else (bif (decide (0 ≤ (w64 (r2 + 1))) && decide ((w64 (r2 + 1)) ≤ (a1.length : Int))) then (bif (decide (0 ≤ (w64 (r2 + 1))) && decide ((w64 (r2 + 1)) ≤ (a1.length : Int))) then k0 (⟨a1, (a1.take ((w64 (r2 + 1)) : Int).toNat), (a1.drop ((w64 (r2 + 1)) : Int).toNat), 0, []⟩ : G_Parts) true else none) else none))))
noncomputable def I_call_based [Fuel] : C_call_based := ⟨NN, @call_split _⟩
noncomputable def call_based [Fuel] : T_call_based := @call_based_ I_call_based
def SS_call_based (g : T_call_based) : Spec A := fun args => match args with | [.d (.str a1)] => fun k => g a1 (fun z0 z1 => k (.tup [.agg [.d (.str z0.f_Base), .d (.str z0.f_Prefix), .d (.str z0.f_Suffix), .d (.int .i64 z0.f_Kind), .d (.str z0.f_Added)], .d (.bool z1)]) [.undef]) | _ => fun _ => none
noncomputable def code_206 : Code := (Tryz.f206.body).getD .skip
noncomputable def E_call_based (g : C_call_based) : Env A := mkE [(247, SS_call_split g.call_split)] [(2, [0])] [] [] [] [] [] [] [] []
theorem sm_call_based (g : C_call_based) : Same (SS_call_based (@call_based_ g)) (abody (E_call_based g) Tryz.f206 code_206 1 [] [.asis, .asis] g.N) := by intro args; unfold SS_call_based; split; exact .inr fun R k => (by kernel_rfl); exact .inl fun R k => rfl
theorem ok_call_based [Fuel] : Ok 206 (SS_call_based (@call_based _)) := okF_of std (.cons ok_call_split .nil) ⟨rfl, rfl, by kernel_rfl, rfl, rfl, rfl⟩ (sm_call_based I_call_based) (cuts0 (fun _ => rfl) (by kernel_rfl)) Tryz.func206 (by kernel_rfl) (by kernel_rfl)
abbrev T_call_isBegin : Type 1 := List UInt8 → {R : Type} → (Bool → Option R) → Option R
structure C_call_isBegin where
 N : Nat
 call_isPlain : T_call_isPlain
def call_isBegin_ (g : C_call_isBegin) (a1 : List UInt8) {R : Type} (k0 : Bool → Option R) : Option R :=
 (g.call_isPlain a1 (fun r2 r3 => (bif r3 then (bif (decide (r2 > 0)) then k0 (decide ((a1.length : Int) ≤ 4)) else k0 false) else k0 false)))
noncomputable def I_call_isBegin [Fuel] : C_call_isBegin := ⟨NN, @call_isPlain _⟩
noncomputable def call_isBegin [Fuel] : T_call_isBegin := @call_isBegin_ I_call_isBegin
def SS_call_isBegin (g : T_call_isBegin) : Spec A := fun args => match args with | [.d (.str a1)] => fun k => g a1 (fun z0 => k (.d (.bool z0)) [.undef]) | _ => fun _ => none
noncomputable def code_207 : Code := (Tryz.f207.body).getD .skip
noncomputable def E_call_isBegin (g : C_call_isBegin) : Env A := mkE [(248, SS_call_isPlain g.call_isPlain)] [] [] [] [] [] [] [] [] []
theorem sm_call_isBegin (g : C_call_isBegin) : Same (SS_call_isBegin (@call_isBegin_ g)) (abody (E_call_isBegin g) Tryz.f207 code_207 0 [] [.asis] g.N) := by intro args; unfold SS_call_isBegin; split; exact .inr fun R k => (by kernel_rfl); exact .inl fun R k => rfl
theorem ok_call_isBegin [Fuel] : Ok 207 (SS_call_isBegin (@call_isBegin _)) := okF_of std (.cons ok_call_isPlain .nil) ⟨rfl, rfl, by kernel_rfl, rfl, rfl, rfl⟩ (sm_call_isBegin I_call_isBegin) (cuts0 (fun _ => rfl) (by kernel_rfl)) Tryz.func207 (by kernel_rfl) (by kernel_rfl)
abbrev T_call_tail : Type 1 := List UInt8 → {R : Type} → (Int → List UInt8 → Bool → Option R) → Option R
structure C_call_tail where
 N : Nat
 call_isBegin : T_call_isBegin
 call_isDigit : T_call_isDigit
def call_tail_ (g : C_call_tail) (a1 : List UInt8) {R : Type} (k0 : Int → List UInt8 → Bool → Option R) : Option R :=
 (bif (a1 == [112]) then k0 3 [] true else (bif (a1 == [109]) then k0 4 [] true else (bif (a1 == [109, 109]) then k0 5 [] true else (bif (a1 == [97, 109]) then k0 6 [] true else (bif ((a1.length : Int) == 1) then (at_ a1 0 fun x2 => (g.call_isDigit (x2.toNat : Int) (fun r3 => (bif r3 then k0 2 a1 true else (g.call_isBegin a1 (fun r4 => k0 1 a1 r4)))))) else (g.call_isBegin a1 (fun r5 => k0 1 a1 r5)))))))
noncomputable def I_call_tail [Fuel] : C_call_tail := ⟨NN, @call_isBegin _, @call_isDigit _⟩
noncomputable def call_tail [Fuel] : T_call_tail := @call_tail_ I_call_tail
def SS_call_tail (g : T_call_tail) : Spec A := fun args => match args with | [.d (.str a1)] => fun k => g a1 (fun z0 z1 z2 => k (.tup [.d (.int .i64 z0), .d (.str z1), .d (.bool z2)]) [.undef]) | _ => fun _ => none
noncomputable def code_208 : Code := (Tryz.f208.body).getD .skip
noncomputable def E_call_tail (g : C_call_tail) : Env A := mkE [(207, SS_call_isBegin g.call_isBegin), (249, SS_call_isDigit g.call_isDigit)] [] [] [] [] [] [] [] [] []
theorem sm_call_tail (g : C_call_tail) : Same (SS_call_tail (@call_tail_ g)) (abody (E_call_tail g) Tryz.f208 code_208 0 [] [.asis, .asis, .asis] g.N) := by intro args; unfold SS_call_tail; split; exact .inr fun R k => (by kernel_rfl); exact .inl fun R k => rfl
theorem ok_call_tail [Fuel] : Ok 208 (SS_call_tail (@call_tail _)) := okF_of std (.cons ok_call_isBegin (.cons ok_call_isDigit .nil)) ⟨rfl, rfl, by kernel_rfl, rfl, rfl, rfl⟩ (sm_call_tail I_call_tail) (cuts0 (fun _ => rfl) (by kernel_rfl)) Tryz.func208 (by kernel_rfl) (by kernel_rfl)
abbrev T_call_Parts : Type 1 := List UInt8 → {R : Type} → (G_Parts → Bool → Option R) → Option R
structure C_call_Parts where
 N : Nat
 strings_Cut : T_strings_Cut
 call_based : T_call_based
 call_isBegin : T_call_isBegin
 call_tail : T_call_tail
def call_Parts_ (g : C_call_Parts) (a1 : List UInt8) {R : Type} (k0 : G_Parts → Bool → Option R) : Option R :=
 (bif (decide ((a1.length : Int) > 14)) then k0 (⟨[], [], [], 0, []⟩ : G_Parts) false else (g.call_based a1 (fun r2 r3 => (bif r3 then k0 r2 true else (g.strings_Cut a1 [47] (fun r4 r5 r6 => (bif (!r6) then k0 (⟨[], [], [], 0, []⟩ : G_Parts) false else (g.call_based r5 (fun r7 r8 => (bif r8 then (g.call_isBegin r4 (fun r9 => (bif r9 then k0 (⟨r7.f_Base, r7.f_Prefix, r7.f_Suffix, 1, r4⟩ : G_Parts) true else (g.call_based r4 (fun r10 r11 => (g.call_tail r5 (fun r12 r13 r14 => (bif (!r11) then k0 (⟨[], [], [], 0, []⟩ : G_Parts) false else (bif (!r14) then k0 (⟨[], [], [], 0, []⟩ : G_Parts) false else k0 (⟨r10.f_Base, r10.f_Prefix, r10.f_Suffix, r12, r13⟩ : G_Parts) true))))))))) else (g.call_based r4 (fun r15 r16 => (g.call_tail r5 (fun r17 r18 r19 => (bif (!r16) then k0 (⟨[], [], [], 0, []⟩ : G_Parts) false else (bif (!r19) then k0 (⟨[], [], [], 0, []⟩ : G_Parts) false else k0 (⟨r15.f_Base, r15.f_Prefix, r15.f_Suffix, r17, r18⟩ : G_Parts) true))))))))))))))))
noncomputable def I_call_Parts [Fuel] : C_call_Parts := ⟨NN, @strings_Cut _, @call_based _, @call_isBegin _, @call_tail _⟩
noncomputable def call_Parts [Fuel] : T_call_Parts := @call_Parts_ I_call_Parts
def SS_call_Parts (g : T_call_Parts) : Spec A := fun args => match args with | [.d (.str a1)] => fun k => g a1 (fun z0 z1 => k (.tup [.agg [.d (.str z0.f_Base), .d (.str z0.f_Prefix), .d (.str z0.f_Suffix), .d (.int .i64 z0.f_Kind), .d (.str z0.f_Added)], .d (.bool z1)]) [.undef]) | _ => fun _ => none
noncomputable def code_148 : Code := (Tryz.f148.body).getD .skip
noncomputable def E_call_Parts (g : C_call_Parts) : Env A := mkE [(131, SS_strings_Cut g.strings_Cut), (206, SS_call_based g.call_based), (207, SS_call_isBegin g.call_isBegin), (208, SS_call_tail g.call_tail)] [(2, [0]), (4, [1]), (9, [2]), (11, [3])] [] [] [] [] [] [] [] []
theorem sm_call_Parts (g : C_call_Parts) : Same (SS_call_Parts (@call_Parts_ g)) (abody (E_call_Parts g) Tryz.f148 code_148 4 [] [.asis, .asis] g.N) := by intro args; unfold SS_call_Parts; split; exact .inr fun R k => (by kernel_rfl); exact .inl fun R k => rfl
theorem ok_call_Parts [Fuel] : Ok 148 (SS_call_Parts (@call_Parts _)) := okF_of std (.cons ok_strings_Cut (.cons ok_call_based (.cons ok_call_isBegin (.cons ok_call_tail .nil)))) ⟨rfl, rfl, by kernel_rfl, rfl, rfl, rfl⟩ (sm_call_Parts I_call_Parts) (cuts0 (fun _ => rfl) (by kernel_rfl)) Tryz.func148 (by kernel_rfl) (by kernel_rfl)
abbrev T_call_Is : Type 1 := List UInt8 → {R : Type} → (Bool → Option R) → Option R
structure C_call_Is where
 N : Nat
 call_Parts : T_call_Parts
def call_Is_ (g : C_call_Is) (a1 : List UInt8) {R : Type} (k0 : Bool → Option R) : Option R :=
 (g.call_Parts a1 (fun r2 r3 => k0 r3))
noncomputable def I_call_Is [Fuel] : C_call_Is := ⟨NN, @call_Parts _⟩
noncomputable def call_Is [Fuel] : T_call_Is := @call_Is_ I_call_Is
def SS_call_Is (g : T_call_Is) : Spec A := fun args => match args with | [.d (.str a1)] => fun k => g a1 (fun z0 => k (.d (.bool z0)) [.undef]) | _ => fun _ => none
noncomputable def code_97 : Code := (Tryz.f97.body).getD .skip
noncomputable def E_call_Is (g : C_call_Is) : Env A := mkE [(148, SS_call_Parts g.call_Parts)] [(3, [0])] [] [] [] [] [] [] [] []
theorem sm_call_Is (g : C_call_Is) : Same (SS_call_Is (@call_Is_ g)) (abody (E_call_Is g) Tryz.f97 code_97 1 [] [.asis] g.N) := by intro args; unfold SS_call_Is; split; exact .inr fun R k => (by kernel_rfl); exact .inl fun R k => rfl
theorem ok_call_Is [Fuel] : Ok 97 (SS_call_Is (@call_Is _)) := okF_of std (.cons ok_call_Parts .nil) ⟨rfl, rfl, by kernel_rfl, rfl, rfl, rfl⟩ (sm_call_Is I_call_Is) (cuts0 (fun _ => rfl) (by kernel_rfl)) Tryz.func97 (by kernel_rfl) (by kernel_rfl)
abbrev T_cmp_isNaN__int : Type 1 := Int → {R : Type} → (Bool → Option R) → Option R
def cmp_isNaN__int_ (g : Nat) (a1 : Int) {R : Type} (k0 : Bool → Option R) : Option R :=
 k0 (a1 != a1)
noncomputable def cmp_isNaN__int [Fuel] : T_cmp_isNaN__int := @cmp_isNaN__int_ NN
def SS_cmp_isNaN__int (g : T_cmp_isNaN__int) : Spec A := fun args => match args with | [.d (.int .i64 a1)] => fun k => g a1 (fun z0 => k (.d (.bool z0)) [.undef]) | _ => fun _ => none
noncomputable def code_151 : Code := (Tryz.f151.body).getD .skip
noncomputable def E_cmp_isNaN__int (g : Nat) : Env A := mkE [] [] [] [] [] [] [] [] [] []
theorem sm_cmp_isNaN__int (g : Nat) : Same (SS_cmp_isNaN__int (@cmp_isNaN__int_ g)) (abody (E_cmp_isNaN__int g) Tryz.f151 code_151 0 [] [.asis] g) := by intro args; unfold SS_cmp_isNaN__int; split; exact .inr fun R k => (by kernel_rfl); exact .inl fun R k => rfl
theorem ok_cmp_isNaN__int [Fuel] : Ok 151 (SS_cmp_isNaN__int (@cmp_isNaN__int _)) := okF_of std .nil ⟨rfl, rfl, by kernel_rfl, rfl, rfl, rfl⟩ (sm_cmp_isNaN__int NN) (cuts0 (fun _ => rfl) (by kernel_rfl)) Tryz.func151 (by kernel_rfl) (by kernel_rfl)
noncomputable def Ed_cmp_isNaN__int (g : Nat) : Env A := mkED [] [] [] [] [] [] [] [] [] []
theorem smd_cmp_isNaN__int (g : Nat) : Same (SS_cmp_isNaN__int (@cmp_isNaN__int_ g)) (abody (Ed_cmp_isNaN__int g) Tryz.f151 code_151 0 [] [.asis] g) := by intro args; unfold SS_cmp_isNaN__int; split; exact .inr fun R k => (by kernel_rfl); exact .inl fun R k => rfl
theorem okd_cmp_isNaN__int [Fuel] : OkD 151 (SS_cmp_isNaN__int (@cmp_isNaN__int _)) := okF_of stdD .nil ⟨rfl, rfl, by kernel_rfl, rfl, rfl, rfl⟩ (smd_cmp_isNaN__int NN) (cuts0 (fun _ => rfl) (by kernel_rfl)) Tryz.func151 (by kernel_rfl) (by kernel_rfl)
abbrev T_cmp_Compare__int : Type 1 := Int → Int → {R : Type} → (Int → Option R) → Option R
structure C_cmp_Compare__int where
 N : Nat
 cmp_isNaN__int : T_cmp_isNaN__int
def cmp_Compare__int_ (g : C_cmp_Compare__int) (a1 a2 : Int) {R : Type} (k0 : Int → Option R) : Option R :=
 (g.cmp_isNaN__int a1 (fun r3 => (g.cmp_isNaN__int a2 (fun r4 => (bif r3 then (bif r4 then k0 0 else k0 (-1)) else (bif r4 then k0 1 else (bif (decide (a1 < a2)) then k0 (-1) else (bif (decide (a1 > a2)) then k0 1 else k0 0))))))))
noncomputable def I_cmp_Compare__int [Fuel] : C_cmp_Compare__int := ⟨NN, @cmp_isNaN__int _⟩
noncomputable def cmp_Compare__int [Fuel] : T_cmp_Compare__int := @cmp_Compare__int_ I_cmp_Compare__int
def SS_cmp_Compare__int (g : T_cmp_Compare__int) : Spec A := fun args => match args with | [.d (.int .i64 a1), .d (.int .i64 a2)] => fun k => g a1 a2 (fun z0 => k (.d (.int .i64 z0)) [.undef, .undef]) | _ => fun _ => none
noncomputable def code_105 : Code := (Tryz.f105.body).getD .skip
noncomputable def E_cmp_Compare__int (g : C_cmp_Compare__int) : Env A := mkE [(151, SS_cmp_isNaN__int g.cmp_isNaN__int)] [] [] [] [] [] [] [] [] []
theorem sm_cmp_Compare__int (g : C_cmp_Compare__int) : Same (SS_cmp_Compare__int (@cmp_Compare__int_ g)) (abody (E_cmp_Compare__int g) Tryz.f105 code_105 0 [] [.asis] g.N) := by intro args; unfold SS_cmp_Compare__int; split; exact .inr fun R k => (by kernel_rfl); exact .inl fun R k => rfl
theorem ok_cmp_Compare__int [Fuel] : Ok 105 (SS_cmp_Compare__int (@cmp_Compare__int _)) := okF_of std (.cons ok_cmp_isNaN__int .nil) ⟨rfl, rfl, by kernel_rfl, rfl, rfl, rfl⟩ (sm_cmp_Compare__int I_cmp_Compare__int) (cuts0 (fun _ => rfl) (by kernel_rfl)) Tryz.func105 (by kernel_rfl) (by kernel_rfl)
noncomputable def Ed_cmp_Compare__int (g : C_cmp_Compare__int) : Env A := mkED [(151, SS_cmp_isNaN__int g.cmp_isNaN__int)] [] [] [] [] [] [] [] [] []
theorem smd_cmp_Compare__int (g : C_cmp_Compare__int) : Same (SS_cmp_Compare__int (@cmp_Compare__int_ g)) (abody (Ed_cmp_Compare__int g) Tryz.f105 code_105 0 [] [.asis] g.N) := by intro args; unfold SS_cmp_Compare__int; split; exact .inr fun R k => (by kernel_rfl); exact .inl fun R k => rfl
theorem okd_cmp_Compare__int [Fuel] : OkD 105 (SS_cmp_Compare__int (@cmp_Compare__int _)) := okF_of stdD (.cons okd_cmp_isNaN__int .nil) ⟨rfl, rfl, by kernel_rfl, rfl, rfl, rfl⟩ (smd_cmp_Compare__int I_cmp_Compare__int) (cuts0 (fun _ => rfl) (by kernel_rfl)) Tryz.func105 (by kernel_rfl) (by kernel_rfl)
abbrev T_cmp_Or__int : Type 1 := List Int → {R : Type} → (Int → Option R) → Option R
def cmp_Or__int_L3 (g : Nat) : Nat → Int → List Int → Int → Int → {R : Type} → (Int → Int → Option R) → (Int → Option R) → Option R
 | 0, _, _, _, _, _, _, _ => none
 | n + 1, v2, v3, v4, v5, _, e0, e1 => (bif (decide (v5 < v4)) then (get_ v3 v5 fun x7 => (bif (x7 != v2) then e0 x7 v2 else cmp_Or__int_L3 g n v2 v3 v4 (w64 (v5 + 1)) e0 e1)) else e1 v2)
def cmp_Or__int_ (g : Nat) (a1 : List Int) {R : Type} (k0 : Int → Option R) : Option R :=
 (cmp_Or__int_L3 g g 0 a1 (a1.length : Int) 0 (fun e8 e9 => k0 e8) (fun e10 => k0 e10))
noncomputable def cmp_Or__int [Fuel] : T_cmp_Or__int := @cmp_Or__int_ NN
def SS_cmp_Or__int (g : T_cmp_Or__int) : Spec A := fun args => match args with | [.d (.sl 3 a1)] => fun k => g a1 (fun z0 => k (.d (.int .i64 z0)) [.undef]) | _ => fun _ => none
def sh_cmp_Or__int_L3 : SSt := mkSh 18 0 [(3, .int .i64), (6, .sl 3), (7, .int .i64), (8, .int .i64)] []
def LP_cmp_Or__int_L3 (g : Nat) (n : Nat) : LPT A := fun ps => match ps with | [.d (.int .i64 p1), .d (.sl 3 p2), .d (.int .i64 p3), .d (.int .i64 p4)] => fun K => cmp_Or__int_L3 g n p1 p2 p3 p4 (fun z0 z1 => K .ret (mkSt 18 0 [(2, .d (.int .i64 z0)), (3, .d (.int .i64 z1))] [])) (fun z0 => K (.exit 0) (mkSt 18 0 [(3, .d (.int .i64 z0))] [])) | _ => fun _ => none
noncomputable def code_77 : Code := (Tryz.f77.body).getD .skip
noncomputable def E_cmp_Or__int (g : Nat) : Env A := mkE [] [] [(3, ⟨[3, 6, 7, 8], [], [], []⟩)] [(3, ⟨[2, 3], [], [], []⟩)] [(3, pieceOf sh_cmp_Or__int_L3 (LP_cmp_Or__int_L3 g g))] [] [] [] [] []
theorem ct_cmp_Or__int [Fuel] : NatTab (E_cmp_Or__int NN).C := ct_of (P := Tryz.prog) (T := T) .nil (by kernel_rfl)
noncomputable def cb_cmp_Or__int_L3 : Code := sub [1, 1, 0, 1, 0, 0] code_77
theorem s_cmp_Or__int_L3 (g : Nat) (n : Nat) : StepOk (E_cmp_Or__int g) g cb_cmp_Or__int_L3 sh_cmp_Or__int_L3 (LP_cmp_Or__int_L3 g) n := by intro ps; unfold LP_cmp_Or__int_L3; split; exact .inr fun R K => (by kernel_rfl); exact .inl fun R K => rfl
theorem lf_cmp_Or__int_L3 [Fuel] : LoopFine (E_cmp_Or__int NN) NN cb_cmp_Or__int_L3 := fine_loop sh_cmp_Or__int_L3 (LP_cmp_Or__int_L3 NN) (by kernel_rfl) ct_cmp_Or__int (cuts0 (fun _ => rfl) (by kernel_rfl)) (fun ps R K => by unfold LP_cmp_Or__int_L3; split <;> (try unfold cmp_Or__int_L3) <;> rfl) (s_cmp_Or__int_L3 NN)
theorem sm_cmp_Or__int (g : Nat) : Same (SS_cmp_Or__int (@cmp_Or__int_ g)) (abody (E_cmp_Or__int g) Tryz.f77 code_77 0 [] [.asis] g) := by intro args; unfold SS_cmp_Or__int; split; exact .inr fun R k => (by kernel_rfl); exact .inl fun R k => rfl
theorem ok_cmp_Or__int [Fuel] : Ok 77 (SS_cmp_Or__int (@cmp_Or__int _)) := okF_of std .nil ⟨rfl, rfl, by kernel_rfl, rfl, rfl, rfl⟩ (sm_cmp_Or__int NN) (cutsL (fun _ => rfl) (.cons lf_cmp_Or__int_L3 .nil) (by kernel_rfl)) Tryz.func77 (by kernel_rfl) (by kernel_rfl)
noncomputable def Ed_cmp_Or__int (g : Nat) : Env A := mkED [] [] [(3, ⟨[3, 6, 7, 8], [], [], []⟩)] [(3, ⟨[2, 3], [], [], []⟩)] [(3, pieceOf sh_cmp_Or__int_L3 (LP_cmp_Or__int_L3 g g))] [] [] [] [] []
theorem ctd_cmp_Or__int [Fuel] : NatTab (Ed_cmp_Or__int NN).C := ct_of (P := Tryz.prog) (T := TD) .nil (by kernel_rfl)
theorem sd_cmp_Or__int_L3 (g : Nat) (n : Nat) : StepOk (Ed_cmp_Or__int g) g cb_cmp_Or__int_L3 sh_cmp_Or__int_L3 (LP_cmp_Or__int_L3 g) n := by intro ps; unfold LP_cmp_Or__int_L3; split; exact .inr fun R K => (by kernel_rfl); exact .inl fun R K => rfl
theorem lfd_cmp_Or__int_L3 [Fuel] : LoopFine (Ed_cmp_Or__int NN) NN cb_cmp_Or__int_L3 := fine_loop sh_cmp_Or__int_L3 (LP_cmp_Or__int_L3 NN) (by kernel_rfl) ctd_cmp_Or__int (cuts0 (fun _ => rfl) (by kernel_rfl)) (fun ps R K => by unfold LP_cmp_Or__int_L3; split <;> (try unfold cmp_Or__int_L3) <;> rfl) (sd_cmp_Or__int_L3 NN)
theorem smd_cmp_Or__int (g : Nat) : Same (SS_cmp_Or__int (@cmp_Or__int_ g)) (abody (Ed_cmp_Or__int g) Tryz.f77 code_77 0 [] [.asis] g) := by intro args; unfold SS_cmp_Or__int; split; exact .inr fun R k => (by kernel_rfl); exact .inl fun R k => rfl
theorem okd_cmp_Or__int [Fuel] : OkD 77 (SS_cmp_Or__int (@cmp_Or__int _)) := okF_of stdD .nil ⟨rfl, rfl, by kernel_rfl, rfl, rfl, rfl⟩ (smd_cmp_Or__int NN) (cutsL (fun _ => rfl) (.cons lfd_cmp_Or__int_L3 .nil) (by kernel_rfl)) Tryz.func77 (by kernel_rfl) (by kernel_rfl)
abbrev T_club_compareCards : Type 1 := G_Card → G_Card → {R : Type} → (Int → Option R) → Option R
structure C_club_compareCards where
 N : Nat
 strings_Compare : T_strings_Compare
 cmp_Or__int : T_cmp_Or__int
 cmp_Compare__int : T_cmp_Compare__int
def club_compareCards_ (g : C_club_compareCards) (a1 a2 : G_Card) {R : Type} (k0 : Int → Option R) : Option R :=
 (g.cmp_Compare__int a1.f_At a2.f_At (fun r3 => (g.strings_Compare a1.f_Call a2.f_Call (fun r4 => (g.strings_Compare a1.f_Band a2.f_Band (fun r5 => (g.cmp_Compare__int a1.f_Mode a2.f_Mode (fun r6 => (g.cmp_Compare__int a1.f_Kind a2.f_Kind (fun r7 => (g.cmp_Or__int [r3, r4, r5, r6, r7] (fun r8 => k0 r8))))))))))))
noncomputable def I_club_compareCards [Fuel] : C_club_compareCards := ⟨NN, @strings_Compare _, @cmp_Or__int _, @cmp_Compare__int _⟩
noncomputable def club_compareCards [Fuel] : T_club_compareCards := @club_compareCards_ I_club_compareCards
def SS_club_compareCards (g : T_club_compareCards) : Spec A := fun args => match args with | [.agg [.d (.int .i64 a1), .d (.int .i64 a2), .d (.int .i64 a3), .d (.str a4), .d (.str a5)], .agg [.d (.int .i64 a6), .d (.int .i64 a7), .d (.int .i64 a8), .d (.str a9), .d (.str a10)]] => fun k => g ⟨a1, a2, a3, a4, a5⟩ ⟨a6, a7, a8, a9, a10⟩ (fun z0 => k (.d (.int .i64 z0)) [.undef, .undef]) | _ => fun _ => none
noncomputable def code_69 : Code := (Tryz.f69.body).getD .skip
noncomputable def E_club_compareCards (g : C_club_compareCards) : Env A := mkE [(56, SS_strings_Compare g.strings_Compare), (77, SS_cmp_Or__int g.cmp_Or__int), (105, SS_cmp_Compare__int g.cmp_Compare__int)] [(2, [0]), (3, [1]), (30, [2])] [] [] [] [] [] [] [] []
theorem sm_club_compareCards (g : C_club_compareCards) : Same (SS_club_compareCards (@club_compareCards_ g)) (abody (E_club_compareCards g) Tryz.f69 code_69 3 [] [.asis] g.N) := by intro args; unfold SS_club_compareCards; split; exact .inr fun R k => (by kernel_rfl); exact .inl fun R k => rfl
theorem ok_club_compareCards [Fuel] : Ok 69 (SS_club_compareCards (@club_compareCards _)) := okF_of std (.cons ok_strings_Compare (.cons ok_cmp_Or__int (.cons ok_cmp_Compare__int .nil))) ⟨rfl, rfl, by kernel_rfl, rfl, rfl, rfl⟩ (sm_club_compareCards I_club_compareCards) (cuts0 (fun _ => rfl) (by kernel_rfl)) Tryz.func69 (by kernel_rfl) (by kernel_rfl)
abbrev T_club_CheckCards : Type 1 := List G_Card → {R : Type} → (Int → Option R) → Option R
structure C_club_CheckCards where
 N : Nat
 kit_IsKey : T_kit_IsKey
 kit_IsMode : T_kit_IsMode
 kit_IsMoment : T_kit_IsMoment
 kit_Outside : T_kit_Outside
 club_compareCards : T_club_compareCards
 call_Is : T_call_Is
def club_CheckCards_L4 (g : C_club_CheckCards) : Nat → List G_Card → List G_Card → Int → Int → {R : Type} → (Int → Option R) → Option R → Option R
 | 0, _, _, _, _, _, _, _ => none
 | n + 1, v2, v3, v4, v5, _, e0, e1 => (bif (decide (v5 < v4)) then (get_ v3 v5 fun x14 => (g.kit_IsMoment x14.f_At (fun r15 => (bif (!r15) then e0 1 else (g.kit_Outside x14.f_Kind 1 3 (fun r16 => (bif r16 then e0 4 else (g.kit_IsMode x14.f_Mode (fun r17 => (bif (!r17) then e0 4 else (g.call_Is x14.f_Call (fun r18 => (bif (!r18) then e0 3 else (g.kit_IsKey x14.f_Band (fun r19 => (bif (!r19) then e0 5 else (bif (decide (v5 > 0)) then (get_ v2 (w64 (v5 - 1)) fun x20 => (g.club_compareCards x20 x14 (fun r21 => (bif (decide (r21 ≥ 0)) then e0 7 else club_CheckCards_L4 g n v2 v3 v4 (w64 (v5 + 1)) e0 e1)))) else club_CheckCards_L4 g n v2 v3 v4 (w64 (v5 + 1)) e0 e1))))))))))))))))) else e1)
def club_CheckCards_ (g : C_club_CheckCards) (a1 : List G_Card) {R : Type} (k0 : Int → Option R) : Option R :=
 (bif (decide ((a1.length : Int) > 3000)) then k0 2 else (club_CheckCards_L4 g g.N a1 a1 (a1.length : Int) 0 (fun e22 => k0 e22) (k0 0)))
noncomputable def I_club_CheckCards [Fuel] : C_club_CheckCards := ⟨NN, @kit_IsKey _, @kit_IsMode _, @kit_IsMoment _, @kit_Outside _, @club_compareCards _, @call_Is _⟩
noncomputable def club_CheckCards [Fuel] : T_club_CheckCards := @club_CheckCards_ I_club_CheckCards
def SS_club_CheckCards (g : T_club_CheckCards) : Spec A := fun args => match args with | [.d (.sl 46 a1)] => fun k => g a1 (fun z0 => k (.d (.int .i64 z0)) [.undef]) | _ => fun _ => none
def sh_club_CheckCards_L4 : SSt := mkSh 54 1 [(0, .sl 46), (8, .sl 46), (9, .int .i64), (10, .int .i64)] []
def LP_club_CheckCards_L4 (g : C_club_CheckCards) (n : Nat) : LPT A := fun ps => match ps with | [.d (.sl 46 p1), .d (.sl 46 p2), .d (.int .i64 p3), .d (.int .i64 p4)] => fun K => club_CheckCards_L4 g n p1 p2 p3 p4 (fun z0 => K .ret (mkSt 54 1 [(2, .d (.int .i64 z0))] [])) (K (.exit 0) (mkSt 54 1 [] [])) | _ => fun _ => none
noncomputable def code_66 : Code := (Tryz.f66.body).getD .skip
noncomputable def E_club_CheckCards (g : C_club_CheckCards) : Env A := mkE [(49, SS_kit_IsKey g.kit_IsKey), (50, SS_kit_IsMode g.kit_IsMode), (51, SS_kit_IsMoment g.kit_IsMoment), (60, SS_kit_Outside g.kit_Outside), (69, SS_club_compareCards g.club_compareCards), (97, SS_call_Is g.call_Is)] [(4, [0])] [(4, ⟨[0, 8, 9, 10], [], [], []⟩)] [(4, ⟨[2], [], [], []⟩)] [(4, pieceOf sh_club_CheckCards_L4 (LP_club_CheckCards_L4 g g.N))] [] [] [] [] []
theorem ct_club_CheckCards [Fuel] : NatTab (E_club_CheckCards I_club_CheckCards).C := ct_of (P := Tryz.prog) (T := T) (.cons ok_kit_IsKey (.cons ok_kit_IsMode (.cons ok_kit_IsMoment (.cons ok_kit_Outside (.cons ok_club_compareCards (.cons ok_call_Is .nil)))))) (by kernel_rfl)
noncomputable def cb_club_CheckCards_L4 : Code := sub [1, 1, 0, 1, 0, 0] code_66
theorem s_club_CheckCards_L4 (g : C_club_CheckCards) (n : Nat) : StepOk (E_club_CheckCards g) g.N cb_club_CheckCards_L4 sh_club_CheckCards_L4 (LP_club_CheckCards_L4 g) n := by intro ps; unfold LP_club_CheckCards_L4; split; exact .inr fun R K => (by kernel_rfl); exact .inl fun R K => rfl
theorem lf_club_CheckCards_L4 [Fuel] : LoopFine (E_club_CheckCards I_club_CheckCards) NN cb_club_CheckCards_L4 := fine_loop sh_club_CheckCards_L4 (LP_club_CheckCards_L4 I_club_CheckCards) (by kernel_rfl) ct_club_CheckCards (cuts0 (fun _ => rfl) (by kernel_rfl)) (fun ps R K => by unfold LP_club_CheckCards_L4; split <;> (try unfold club_CheckCards_L4) <;> rfl) (s_club_CheckCards_L4 I_club_CheckCards)
theorem sm_club_CheckCards (g : C_club_CheckCards) : Same (SS_club_CheckCards (@club_CheckCards_ g)) (abody (E_club_CheckCards g) Tryz.f66 code_66 1 [] [.asis] g.N) := by intro args; unfold SS_club_CheckCards; split; exact .inr fun R k => (by kernel_rfl); exact .inl fun R k => rfl
theorem ok_club_CheckCards [Fuel] : Ok 66 (SS_club_CheckCards (@club_CheckCards _)) := okF_of std (.cons ok_kit_IsKey (.cons ok_kit_IsMode (.cons ok_kit_IsMoment (.cons ok_kit_Outside (.cons ok_club_compareCards (.cons ok_call_Is .nil)))))) ⟨rfl, rfl, by kernel_rfl, rfl, rfl, rfl⟩ (sm_club_CheckCards I_club_CheckCards) (cutsL (fun _ => rfl) (.cons lf_club_CheckCards_L4 .nil) (by kernel_rfl)) Tryz.func66 (by kernel_rfl) (by kernel_rfl)
abbrev T_call_BaseOf : Type 1 := List UInt8 → {R : Type} → (List UInt8 → Option R) → Option R
structure C_call_BaseOf where
 N : Nat
 call_Parts : T_call_Parts
def call_BaseOf_ (g : C_call_BaseOf) (a1 : List UInt8) {R : Type} (k0 : List UInt8 → Option R) : Option R :=
 (g.call_Parts a1 (fun r2 r3 => k0 r2.f_Base))
noncomputable def I_call_BaseOf [Fuel] : C_call_BaseOf := ⟨NN, @call_Parts _⟩
noncomputable def call_BaseOf [Fuel] : T_call_BaseOf := @call_BaseOf_ I_call_BaseOf
def SS_call_BaseOf (g : T_call_BaseOf) : Spec A := fun args => match args with | [.d (.str a1)] => fun k => g a1 (fun z0 => k (.d (.str z0)) [.undef]) | _ => fun _ => none
noncomputable def code_99 : Code := (Tryz.f99.body).getD .skip
noncomputable def E_call_BaseOf (g : C_call_BaseOf) : Env A := mkE [(148, SS_call_Parts g.call_Parts)] [(3, [0])] [] [] [] [] [] [] [] []
theorem sm_call_BaseOf (g : C_call_BaseOf) : Same (SS_call_BaseOf (@call_BaseOf_ g)) (abody (E_call_BaseOf g) Tryz.f99 code_99 1 [] [.asis] g.N) := by intro args; unfold SS_call_BaseOf; split; exact .inr fun R k => (by kernel_rfl); exact .inl fun R k => rfl
theorem ok_call_BaseOf [Fuel] : Ok 99 (SS_call_BaseOf (@call_BaseOf _)) := okF_of std (.cons ok_call_Parts .nil) ⟨rfl, rfl, by kernel_rfl, rfl, rfl, rfl⟩ (sm_call_BaseOf I_call_BaseOf) (cuts0 (fun _ => rfl) (by kernel_rfl)) Tryz.func99 (by kernel_rfl) (by kernel_rfl)
abbrev T_club_contactOf : Type 1 := G_Card → {R : Type} → (G_club_contact → Option R) → Option R
structure C_club_contactOf where
 N : Nat
 call_BaseOf : T_call_BaseOf
def club_contactOf_ (g : C_club_contactOf) (a1 : G_Card) {R : Type} (k0 : G_club_contact → Option R) : Option R :=
 (g.call_BaseOf a1.f_Call (fun r2 => k0 (⟨r2, a1.f_Band, a1.f_Mode⟩ : G_club_contact)))
noncomputable def I_club_contactOf [Fuel] : C_club_contactOf := ⟨NN, @call_BaseOf _⟩
noncomputable def club_contactOf [Fuel] : T_club_contactOf := @club_contactOf_ I_club_contactOf
def SS_club_contactOf (g : T_club_contactOf) : Spec A := fun args => match args with | [.agg [.d (.int .i64 a1), .d (.int .i64 a2), .d (.int .i64 a3), .d (.str a4), .d (.str a5)]] => fun k => g ⟨a1, a2, a3, a4, a5⟩ (fun z0 => k (.agg [.d (.str z0.f_base), .d (.str z0.f_band), .d (.int .i64 z0.f_mode)]) [.undef]) | _ => fun _ => none
noncomputable def code_73 : Code := (Tryz.f73.body).getD .skip
noncomputable def E_club_contactOf (g : C_club_contactOf) : Env A := mkE [(99, SS_call_BaseOf g.call_BaseOf)] [(1, [0]), (2, [1])] [] [] [] [] [] [] [] []
theorem sm_club_contactOf (g : C_club_contactOf) : Same (SS_club_contactOf (@club_contactOf_ g)) (abody (E_club_contactOf g) Tryz.f73 code_73 2 [] [.asis] g.N) := by intro args; unfold SS_club_contactOf; split; exact .inr fun R k => (by kernel_rfl); exact .inl fun R k => rfl
theorem ok_club_contactOf [Fuel] : Ok 73 (SS_club_contactOf (@club_contactOf _)) := okF_of std (.cons ok_call_BaseOf .nil) ⟨rfl, rfl, by kernel_rfl, rfl, rfl, rfl⟩ (sm_club_contactOf I_club_contactOf) (cuts0 (fun _ => rfl) (by kernel_rfl)) Tryz.func73 (by kernel_rfl) (by kernel_rfl)
abbrev T_club_confirmed : Type 1 := List G_Card → Int → {R : Type} → (List G_Card → Option R) → Option R
structure C_club_confirmed where
 N : Nat
 club_contactOf : T_club_contactOf
def club_confirmed_L4 (g : C_club_confirmed) : Nat → Int → List G_Card → Int → Int → List (G_club_contact × Bool) → List G_Card → {R : Type} → (List G_Card → Option R) → Option R
 | 0, _, _, _, _, _, _, _, _ => none
 | n + 1, v3, v4, v5, v6, v7, v8, _, e0 => (bif (decide (v6 < v5)) then (get_ v4 v6 fun x11 => (g.club_contactOf x11 (fun r12 => (bif (decide (x11.f_At ≤ v3)) then (bif (x11.f_Kind == 2) then (bif (!((mget_club_contact_bool r12 v7).getD false)) then (bif (decide ((v8.length + [x11].length) * 56 ≤ roomBytes')) then club_confirmed_L4 g n v3 v4 v5 (w64 (v6 + 1)) (mset_club_contact_bool r12 true v7) (v8 ++ [x11]) e0 else none) else club_confirmed_L4 g n v3 v4 v5 (w64 (v6 + 1)) v7 v8 e0) else club_confirmed_L4 g n v3 v4 v5 (w64 (v6 + 1)) v7 v8 e0) else club_confirmed_L4 g n v3 v4 v5 (w64 (v6 + 1)) v7 v8 e0)))) else e0 v8)
def club_confirmed_ (g : C_club_confirmed) (a1 : List G_Card) (a2 : Int) {R : Type} (k0 : List G_Card → Option R) : Option R :=
 (club_confirmed_L4 g g.N a2 a1 (a1.length : Int) 0 [] [] (fun e13 => k0 e13))
noncomputable def I_club_confirmed [Fuel] : C_club_confirmed := ⟨NN, @club_contactOf _⟩
noncomputable def club_confirmed [Fuel] : T_club_confirmed := @club_confirmed_ I_club_confirmed
def SS_club_confirmed (g : T_club_confirmed) : Spec A := fun args => match args with | [.d (.sl 46 a1), .d (.int .i64 a2)] => fun k => g a1 a2 (fun z0 => k (.arr 46 z0) [.undef, .undef]) | _ => fun _ => none
def sh_club_confirmed_L4 : SSt := mkSh 42 6 [(1, .int .i64), (5, .mp 0), (6, .own 46 1), (11, .sl 46), (12, .int .i64), (13, .int .i64)] [(0, .mp 132 4), (1, .row 46)]
def LP_club_confirmed_L4 (g : C_club_confirmed) (n : Nat) : LPT A := fun ps => match ps with | [.d (.int .i64 p1), .d (.sl 46 p2), .d (.int .i64 p3), .d (.int .i64 p4), .mp 132 4 p5, .d (.sl 46 p6)] => fun K => club_confirmed_L4 g n p1 p2 p3 p4 p5 p6 (fun z0 => K (.exit 0) (mkSt 42 6 [(6, .own 46 1)] [(1, some (.row 46 z0))])) | _ => fun _ => none
noncomputable def code_72 : Code := (Tryz.f72.body).getD .skip
noncomputable def E_club_confirmed (g : C_club_confirmed) : Env A := mkE [(73, SS_club_contactOf g.club_contactOf)] [(8, [2]), (9, [3]), (10, [0]), (38, [4]), (39, [5])] [(4, ⟨[1, 5, 6, 11, 12, 13], [(6, 46, 1)], [0], []⟩)] [(4, ⟨[6], [], [1], []⟩)] [(4, pieceOf sh_club_confirmed_L4 (LP_club_confirmed_L4 g g.N))] [] [] [] [] []
theorem ct_club_confirmed [Fuel] : NatTab (E_club_confirmed I_club_confirmed).C := ct_of (P := Tryz.prog) (T := T) (.cons ok_club_contactOf .nil) (by kernel_rfl)
noncomputable def cb_club_confirmed_L4 : Code := sub [1, 1, 1, 0, 1, 0, 0] code_72
theorem s_club_confirmed_L4 (g : C_club_confirmed) (n : Nat) : StepOk (E_club_confirmed g) g.N cb_club_confirmed_L4 sh_club_confirmed_L4 (LP_club_confirmed_L4 g) n := by intro ps; unfold LP_club_confirmed_L4; split; exact .inr fun R K => (by kernel_rfl); exact .inl fun R K => rfl
theorem lf_club_confirmed_L4 [Fuel] : LoopFine (E_club_confirmed I_club_confirmed) NN cb_club_confirmed_L4 := fine_loop sh_club_confirmed_L4 (LP_club_confirmed_L4 I_club_confirmed) (by kernel_rfl) ct_club_confirmed (cuts0 (fun _ => rfl) (by kernel_rfl)) (fun ps R K => by unfold LP_club_confirmed_L4; split <;> (try unfold club_confirmed_L4) <;> rfl) (s_club_confirmed_L4 I_club_confirmed)
theorem sm_club_confirmed (g : C_club_confirmed) : Same (SS_club_confirmed (@club_confirmed_ g)) (abody (E_club_confirmed g) Tryz.f72 code_72 6 [] [.arr 46] g.N) := by intro args; unfold SS_club_confirmed; split; exact .inr fun R k => (by kernel_rfl); exact .inl fun R k => rfl
theorem ok_club_confirmed [Fuel] : Ok 72 (SS_club_confirmed (@club_confirmed _)) := okF_of std (.cons ok_club_contactOf .nil) ⟨rfl, rfl, by kernel_rfl, rfl, rfl, rfl⟩ (sm_club_confirmed I_club_confirmed) (cutsL (fun _ => rfl) (.cons lf_club_confirmed_L4 .nil) (by kernel_rfl)) Tryz.func72 (by kernel_rfl) (by kernel_rfl)
abbrev T_club_counted : Type 1 := G_Award → G_club_contact → {R : Type} → (G_club_contact → Option R) → Option R
def club_counted_ (g : Nat) (a1 : G_Award) (a2 : G_club_contact) {R : Type} (k0 : G_club_contact → Option R) : Option R :=
 (bif (a1.f_Count == 1) then (bif (a1.f_Count == 1) then k0 (⟨a2.f_base, [], 0⟩ : G_club_contact) else (bif (a1.f_Count == 2) then k0 (⟨a2.f_base, [], 0⟩ : G_club_contact) else k0 (⟨a2.f_base, [], a2.f_mode⟩ : G_club_contact))) else (bif (a1.f_Count == 3) then (bif (a1.f_Count == 1) then k0 (⟨a2.f_base, [], 0⟩ : G_club_contact) else (bif (a1.f_Count == 2) then k0 (⟨a2.f_base, [], 0⟩ : G_club_contact) else k0 (⟨a2.f_base, [], a2.f_mode⟩ : G_club_contact))) else (bif (a1.f_Count == 1) then k0 (⟨a2.f_base, a2.f_band, 0⟩ : G_club_contact) else (bif (a1.f_Count == 2) then k0 (⟨a2.f_base, a2.f_band, 0⟩ : G_club_contact) else k0 a2))))
noncomputable def club_counted [Fuel] : T_club_counted := @club_counted_ NN
def SS_club_counted (g : T_club_counted) : Spec A := fun args => match args with | [.agg [.d (.str a1), .d (.str a2), .d (.int .i64 a3), .d (.int .i64 a4)], .agg [.d (.str a5), .d (.str a6), .d (.int .i64 a7)]] => fun k => g ⟨a1, a2, a3, a4⟩ ⟨a5, a6, a7⟩ (fun z0 => k (.agg [.d (.str z0.f_base), .d (.str z0.f_band), .d (.int .i64 z0.f_mode)]) [.undef, .undef]) | _ => fun _ => none
noncomputable def code_137 : Code := (Tryz.f137.body).getD .skip
noncomputable def E_club_counted (g : Nat) : Env A := mkE [] [(2, [0]), (3, [1]), (4, [2])] [] [] [] [] [] [] [] []
theorem sm_club_counted (g : Nat) : Same (SS_club_counted (@club_counted_ g)) (abody (E_club_counted g) Tryz.f137 code_137 3 [] [.asis] g) := by intro args; unfold SS_club_counted; split; exact .inr fun R k => (by kernel_rfl); exact .inl fun R k => rfl
theorem ok_club_counted [Fuel] : Ok 137 (SS_club_counted (@club_counted _)) := okF_of std .nil ⟨rfl, rfl, by kernel_rfl, rfl, rfl, rfl⟩ (sm_club_counted NN) (cuts0 (fun _ => rfl) (by kernel_rfl)) Tryz.func137 (by kernel_rfl) (by kernel_rfl)
abbrev T_club_reached : Type 1 := G_Award → List G_Card → {R : Type} → (Int → Int → Option R) → Option R
structure C_club_reached where
 N : Nat
 club_contactOf : T_club_contactOf
 club_counted : T_club_counted
def club_reached_L4 (g : C_club_reached) : Nat → Int → List G_Card → Int → Int → G_Award → List (G_club_contact × Bool) → {R : Type} → (Int → List (G_club_contact × Bool) → Option R) → Option R
 | 0, _, _, _, _, _, _, _, _ => none
 | n + 1, v3, v4, v5, v6, v7, v8, _, e0 => (bif (decide (v6 < v5)) then (get_ v4 v6 fun x14 => (bif (!(v7.f_Band == [])) then (bif (!(x14.f_Band == v7.f_Band)) then club_reached_L4 g n v3 v4 v5 (w64 (v6 + 1)) v7 v8 e0 else (g.club_contactOf x14 (fun r15 => (g.club_counted v7 r15 (fun r16 => (bif (decide (((mset_club_contact_bool r16 true v8).length : Int) ≥ v7.f_Need)) then (bif (decide (v3 < 0)) then club_reached_L4 g n x14.f_At v4 v5 (w64 (v6 + 1)) v7 (mset_club_contact_bool r16 true v8) e0 else club_reached_L4 g n v3 v4 v5 (w64 (v6 + 1)) v7 (mset_club_contact_bool r16 true v8) e0) else club_reached_L4 g n v3 v4 v5 (w64 (v6 + 1)) v7 (mset_club_contact_bool r16 true v8) e0)))))) else (g.club_contactOf x14 (fun r17 => (g.club_counted v7 r17 (fun r18 => (bif (decide (((mset_club_contact_bool r18 true v8).length : Int) ≥ v7.f_Need)) then (bif (decide (v3 < 0)) then club_reached_L4 g n x14.f_At v4 v5 (w64 (v6 + 1)) v7 (mset_club_contact_bool r18 true v8) e0 else club_reached_L4 g n v3 v4 v5 (w64 (v6 + 1)) v7 (mset_club_contact_bool r18 true v8) e0) else club_reached_L4 g n v3 v4 v5 (w64 (v6 + 1)) v7 (mset_club_contact_bool r18 true v8) e0))))))) else e0 v3 v8)
def club_reached_ (g : C_club_reached) (a1 : G_Award) (a2 : List G_Card) {R : Type} (k0 : Int → Int → Option R) : Option R :=
 (club_reached_L4 g g.N (-1) a2 (a2.length : Int) 0 a1 [] (fun e19 e20 => k0 (e20.length : Int) e19))
noncomputable def I_club_reached [Fuel] : C_club_reached := ⟨NN, @club_contactOf _, @club_counted _⟩
noncomputable def club_reached [Fuel] : T_club_reached := @club_reached_ I_club_reached
def SS_club_reached (g : T_club_reached) : Spec A := fun args => match args with | [.agg [.d (.str a1), .d (.str a2), .d (.int .i64 a3), .d (.int .i64 a4)], .d (.sl 46 a5)] => fun k => g ⟨a1, a2, a3, a4⟩ a5 (fun z0 z1 => k (.tup [.d (.int .i64 z0), .d (.int .i64 z1)]) [.undef, .undef]) | _ => fun _ => none
def sh_club_reached_L4 : SSt := mkSh 46 3 [(2, .ptr 0 0), (5, .int .i64), (6, .mp 1), (10, .sl 46), (11, .int .i64), (12, .int .i64)] [(0, .box [.str, .str, .int .i64, .int .i64]), (1, .mp 132 4)]
def LP_club_reached_L4 (g : C_club_reached) (n : Nat) : LPT A := fun ps => match ps with | [.d (.int .i64 p1), .d (.sl 46 p2), .d (.int .i64 p3), .d (.int .i64 p4), .d (.str p5), .d (.str p6), .d (.int .i64 p7), .d (.int .i64 p8), .mp 132 4 p9] => fun K => club_reached_L4 g n p1 p2 p3 p4 ⟨p5, p6, p7, p8⟩ p9 (fun z0 z1 => K (.exit 0) (mkSt 46 3 [(5, .d (.int .i64 z0)), (6, .mp 1)] [(1, some (.mp 132 4 z1))])) | _ => fun _ => none
noncomputable def code_82 : Code := (Tryz.f82.body).getD .skip
noncomputable def E_club_reached (g : C_club_reached) : Env A := mkE [(73, SS_club_contactOf g.club_contactOf), (137, SS_club_counted g.club_counted)] [(2, [0]), (8, [2]), (9, [1])] [(4, ⟨[2, 5, 6, 10, 11, 12], [], [0, 1], []⟩)] [(4, ⟨[5, 6], [], [1], []⟩)] [(4, pieceOf sh_club_reached_L4 (LP_club_reached_L4 g g.N))] [] [] [] [] []
theorem ct_club_reached [Fuel] : NatTab (E_club_reached I_club_reached).C := ct_of (P := Tryz.prog) (T := T) (.cons ok_club_contactOf (.cons ok_club_counted .nil)) (by kernel_rfl)
noncomputable def cb_club_reached_L4 : Code := sub [1, 1, 1, 0, 1, 0, 0] code_82
theorem s_club_reached_L4 (g : C_club_reached) (n : Nat) : StepOk (E_club_reached g) g.N cb_club_reached_L4 sh_club_reached_L4 (LP_club_reached_L4 g) n := by intro ps; unfold LP_club_reached_L4; split; exact .inr fun R K => (by kernel_rfl); exact .inl fun R K => rfl
theorem lf_club_reached_L4 [Fuel] : LoopFine (E_club_reached I_club_reached) NN cb_club_reached_L4 := fine_loop sh_club_reached_L4 (LP_club_reached_L4 I_club_reached) (by kernel_rfl) ct_club_reached (cuts0 (fun _ => rfl) (by kernel_rfl)) (fun ps R K => by unfold LP_club_reached_L4; split <;> (try unfold club_reached_L4) <;> rfl) (s_club_reached_L4 I_club_reached)
theorem sm_club_reached (g : C_club_reached) : Same (SS_club_reached (@club_reached_ g)) (abody (E_club_reached g) Tryz.f82 code_82 3 [] [.asis, .asis] g.N) := by intro args; unfold SS_club_reached; split; exact .inr fun R k => (by kernel_rfl); exact .inl fun R k => rfl
theorem ok_club_reached [Fuel] : Ok 82 (SS_club_reached (@club_reached _)) := okF_of std (.cons ok_club_contactOf (.cons ok_club_counted .nil)) ⟨rfl, rfl, by kernel_rfl, rfl, rfl, rfl⟩ (sm_club_reached I_club_reached) (cutsL (fun _ => rfl) (.cons lf_club_reached_L4 .nil) (by kernel_rfl)) Tryz.func82 (by kernel_rfl) (by kernel_rfl)
end Go.Am
