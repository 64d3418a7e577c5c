/- The functions of the program as Lean functions, each shown to be what the code computes, part 4. No condition: lemmas for the claim. -/
import Derived.Test.YtomkgnajoccdbaaGreatDoorF0
import Derived.Test.YtomkgnajoccdbaaGreatDoorFSh
import Derived.Test.YtomkgnajoccdbaaGreatDoorF1
import Derived.Test.YtomkgnajoccdbaaGreatDoorF3
set_option linter.unusedVariables false
set_option maxRecDepth 100000
namespace Go.Am
open Go Go.Proofs
abbrev T_call_isBegin : Type 1 := List UInt8 → {R : Type} → (Bool → Option R) → Option R
structure C_call_isBegin where
  N : Nat
  call_isPlain : T_call_isPlain
def call_isBegin_ (g : C_call_isBegin) (a1 : List UInt8) {R : Type} (k0 : Bool → Option R) : Option R :=
  (g.call_isPlain a1 (fun r2 r3 => (bif r3 then (bif (decide (r2 > 0)) then k0 (decide ((a1.length : Int) ≤ 4)) else k0 false) else k0 false)))
noncomputable def I_call_isBegin [Fuel] : C_call_isBegin := ⟨NN, @call_isPlain _⟩
noncomputable def call_isBegin [Fuel] : T_call_isBegin := @call_isBegin_ I_call_isBegin
def SS_call_isBegin (g : T_call_isBegin) : Spec A := fun args => match args with | [.d (.str a1)] => fun k => g a1 (fun z0 => k (.d (.bool z0)) [.undef]) | _ => fun _ => none
noncomputable def code_156 : Code := (Tryz.f156.body).getD .skip
noncomputable def E_call_isBegin (g : C_call_isBegin) : Env A := mkE [(206, SS_call_isPlain g.call_isPlain)] [] [] [] [] [] [] [] [] []
theorem sm_call_isBegin (g : C_call_isBegin) : Same (SS_call_isBegin (@call_isBegin_ g)) (abody (E_call_isBegin g) Tryz.f156 code_156 0 [] [.asis] g.N) := by intro args; unfold SS_call_isBegin; split; exact .inr fun R k => (by kernel_rfl); exact .inl fun R k => rfl
theorem ok_call_isBegin [Fuel] : Ok 156 (SS_call_isBegin (@call_isBegin _)) := okF_of std (.cons ok_call_isPlain .nil) ⟨rfl, rfl, by kernel_rfl, rfl, rfl, rfl⟩ (sm_call_isBegin I_call_isBegin) (cuts0 (fun _ => rfl) (by kernel_rfl)) Tryz.func156 (by kernel_rfl) (by kernel_rfl)
abbrev T_call_tail : Type 1 := List UInt8 → {R : Type} → (Int → List UInt8 → Bool → Option R) → Option R
structure C_call_tail where
  N : Nat
  call_isBegin : T_call_isBegin
  call_isDigit : T_call_isDigit
def call_tail_ (g : C_call_tail) (a1 : List UInt8) {R : Type} (k0 : Int → List UInt8 → Bool → Option R) : Option R :=
  (bif (a1 == [112]) then k0 3 [] true else (bif (a1 == [109]) then k0 4 [] true else (bif (a1 == [109, 109]) then k0 5 [] true else (bif (a1 == [97, 109]) then k0 6 [] true else (bif ((a1.length : Int) == 1) then (at_ a1 0 fun x2 => (g.call_isDigit (x2.toNat : Int) (fun r3 => (bif r3 then k0 2 a1 true else (g.call_isBegin a1 (fun r4 => k0 1 a1 r4)))))) else (g.call_isBegin a1 (fun r5 => k0 1 a1 r5)))))))
noncomputable def I_call_tail [Fuel] : C_call_tail := ⟨NN, @call_isBegin _, @call_isDigit _⟩
noncomputable def call_tail [Fuel] : T_call_tail := @call_tail_ I_call_tail
def SS_call_tail (g : T_call_tail) : Spec A := fun args => match args with | [.d (.str a1)] => fun k => g a1 (fun z0 z1 z2 => k (.tup [.d (.int .i64 z0), .d (.str z1), .d (.bool z2)]) [.undef]) | _ => fun _ => none
noncomputable def code_157 : Code := (Tryz.f157.body).getD .skip
noncomputable def E_call_tail (g : C_call_tail) : Env A := mkE [(156, SS_call_isBegin g.call_isBegin), (207, SS_call_isDigit g.call_isDigit)] [] [] [] [] [] [] [] [] []
theorem sm_call_tail (g : C_call_tail) : Same (SS_call_tail (@call_tail_ g)) (abody (E_call_tail g) Tryz.f157 code_157 0 [] [.asis, .asis, .asis] g.N) := by intro args; unfold SS_call_tail; split; exact .inr fun R k => (by kernel_rfl); exact .inl fun R k => rfl
theorem ok_call_tail [Fuel] : Ok 157 (SS_call_tail (@call_tail _)) := okF_of std (.cons ok_call_isBegin (.cons ok_call_isDigit .nil)) ⟨rfl, rfl, by kernel_rfl, rfl, rfl, rfl⟩ (sm_call_tail I_call_tail) (cuts0 (fun _ => rfl) (by kernel_rfl)) Tryz.func157 (by kernel_rfl) (by kernel_rfl)
abbrev T_call_Parts : Type 1 := List UInt8 → {R : Type} → (G_Parts → Bool → Option R) → Option R
structure C_call_Parts where
  N : Nat
  call_based : T_call_based
  strings_Cut : T_strings_Cut
  call_isBegin : T_call_isBegin
  call_tail : T_call_tail
def call_Parts_ (g : C_call_Parts) (a1 : List UInt8) {R : Type} (k0 : G_Parts → Bool → Option R) : Option R :=
  (bif (decide ((a1.length : Int) > 14)) then k0 (⟨[], [], [], 0, []⟩ : G_Parts) false else (g.call_based a1 (fun r2 r3 => (bif r3 then k0 r2 true else (g.strings_Cut a1 [47] (fun r4 r5 r6 => (bif (!r6) then k0 (⟨[], [], [], 0, []⟩ : G_Parts) false else (g.call_based r5 (fun r7 r8 => (bif r8 then (g.call_isBegin r4 (fun r9 => (bif r9 then k0 (⟨r7.f_Base, r7.f_Prefix, r7.f_Suffix, 1, r4⟩ : G_Parts) true else (g.call_based r4 (fun r10 r11 => (g.call_tail r5 (fun r12 r13 r14 => (bif (!r11) then k0 (⟨[], [], [], 0, []⟩ : G_Parts) false else (bif (!r14) then k0 (⟨[], [], [], 0, []⟩ : G_Parts) false else k0 (⟨r10.f_Base, r10.f_Prefix, r10.f_Suffix, r12, r13⟩ : G_Parts) true))))))))) else (g.call_based r4 (fun r15 r16 => (g.call_tail r5 (fun r17 r18 r19 => (bif (!r16) then k0 (⟨[], [], [], 0, []⟩ : G_Parts) false else (bif (!r19) then k0 (⟨[], [], [], 0, []⟩ : G_Parts) false else k0 (⟨r15.f_Base, r15.f_Prefix, r15.f_Suffix, r17, r18⟩ : G_Parts) true))))))))))))))))
noncomputable def I_call_Parts [Fuel] : C_call_Parts := ⟨NN, @call_based _, @strings_Cut _, @call_isBegin _, @call_tail _⟩
noncomputable def call_Parts [Fuel] : T_call_Parts := @call_Parts_ I_call_Parts
def SS_call_Parts (g : T_call_Parts) : Spec A := fun args => match args with | [.d (.str a1)] => fun k => g a1 (fun z0 z1 => k (.tup [.agg [.d (.str z0.f_Base), .d (.str z0.f_Prefix), .d (.str z0.f_Suffix), .d (.int .i64 z0.f_Kind), .d (.str z0.f_Added)], .d (.bool z1)]) [.undef]) | _ => fun _ => none
noncomputable def code_110 : Code := (Tryz.f110.body).getD .skip
noncomputable def E_call_Parts (g : C_call_Parts) : Env A := mkE [(154, SS_call_based g.call_based), (155, SS_strings_Cut g.strings_Cut), (156, SS_call_isBegin g.call_isBegin), (157, SS_call_tail g.call_tail)] [(2, [0]), (4, [1]), (9, [2]), (11, [3])] [] [] [] [] [] [] [] []
theorem sm_call_Parts (g : C_call_Parts) : Same (SS_call_Parts (@call_Parts_ g)) (abody (E_call_Parts g) Tryz.f110 code_110 4 [] [.asis, .asis] g.N) := by intro args; unfold SS_call_Parts; split; exact .inr fun R k => (by kernel_rfl); exact .inl fun R k => rfl
theorem ok_call_Parts [Fuel] : Ok 110 (SS_call_Parts (@call_Parts _)) := okF_of std (.cons ok_call_based (.cons ok_strings_Cut (.cons ok_call_isBegin (.cons ok_call_tail .nil)))) ⟨rfl, rfl, by kernel_rfl, rfl, rfl, rfl⟩ (sm_call_Parts I_call_Parts) (cuts0 (fun _ => rfl) (by kernel_rfl)) Tryz.func110 (by kernel_rfl) (by kernel_rfl)
abbrev T_call_Is : Type 1 := List UInt8 → {R : Type} → (Bool → Option R) → Option R
structure C_call_Is where
  N : Nat
  call_Parts : T_call_Parts
def call_Is_ (g : C_call_Is) (a1 : List UInt8) {R : Type} (k0 : Bool → Option R) : Option R :=
  (g.call_Parts a1 (fun r2 r3 => k0 r3))
noncomputable def I_call_Is [Fuel] : C_call_Is := ⟨NN, @call_Parts _⟩
noncomputable def call_Is [Fuel] : T_call_Is := @call_Is_ I_call_Is
def SS_call_Is (g : T_call_Is) : Spec A := fun args => match args with | [.d (.str a1)] => fun k => g a1 (fun z0 => k (.d (.bool z0)) [.undef]) | _ => fun _ => none
noncomputable def code_76 : Code := (Tryz.f76.body).getD .skip
noncomputable def E_call_Is (g : C_call_Is) : Env A := mkE [(110, SS_call_Parts g.call_Parts)] [(3, [0])] [] [] [] [] [] [] [] []
theorem sm_call_Is (g : C_call_Is) : Same (SS_call_Is (@call_Is_ g)) (abody (E_call_Is g) Tryz.f76 code_76 1 [] [.asis] g.N) := by intro args; unfold SS_call_Is; split; exact .inr fun R k => (by kernel_rfl); exact .inl fun R k => rfl
theorem ok_call_Is [Fuel] : Ok 76 (SS_call_Is (@call_Is _)) := okF_of std (.cons ok_call_Parts .nil) ⟨rfl, rfl, by kernel_rfl, rfl, rfl, rfl⟩ (sm_call_Is I_call_Is) (cuts0 (fun _ => rfl) (by kernel_rfl)) Tryz.func76 (by kernel_rfl) (by kernel_rfl)
abbrev T_kit_Outside : Type 1 := Int → Int → Int → {R : Type} → (Bool → Option R) → Option R
def kit_Outside_ (g : Nat) (a1 a2 a3 : Int) {R : Type} (k0 : Bool → Option R) : Option R :=
  (bif (decide (a1 < a2)) then k0 true else k0 (decide (a1 > a3)))
noncomputable def kit_Outside [Fuel] : T_kit_Outside := @kit_Outside_ NN
def SS_kit_Outside (g : T_kit_Outside) : Spec A := fun args => match args with | [.d (.int .i64 a1), .d (.int .i64 a2), .d (.int .i64 a3)] => fun k => g a1 a2 a3 (fun z0 => k (.d (.bool z0)) [.undef, .undef, .undef]) | _ => fun _ => none
noncomputable def code_57 : Code := (Tryz.f57.body).getD .skip
noncomputable def E_kit_Outside (g : Nat) : Env A := mkE [] [] [] [] [] [] [] [] [] []
theorem sm_kit_Outside (g : Nat) : Same (SS_kit_Outside (@kit_Outside_ g)) (abody (E_kit_Outside g) Tryz.f57 code_57 0 [] [.asis] g) := by intro args; unfold SS_kit_Outside; split; exact .inr fun R k => (by kernel_rfl); exact .inl fun R k => rfl
theorem ok_kit_Outside [Fuel] : Ok 57 (SS_kit_Outside (@kit_Outside _)) := okF_of std .nil ⟨rfl, rfl, by kernel_rfl, rfl, rfl, rfl⟩ (sm_kit_Outside NN) (cuts0 (fun _ => rfl) (by kernel_rfl)) Tryz.func57 (by kernel_rfl) (by kernel_rfl)
abbrev T_kit_IsTime : Type 1 := G_Window → {R : Type} → (Bool → Option R) → Option R
def kit_IsTime_ (g : Nat) (a1 : G_Window) {R : Type} (k0 : Bool → Option R) : Option R :=
  (bif (decide (a1.f_From ≥ 0)) then (bif (decide (a1.f_From < a1.f_To)) then k0 (decide (a1.f_To ≤ 345686400000)) else k0 false) else k0 false)
noncomputable def kit_IsTime [Fuel] : T_kit_IsTime := @kit_IsTime_ NN
def SS_kit_IsTime (g : T_kit_IsTime) : Spec A := fun args => match args with | [.agg [.d (.int .i64 a1), .d (.int .i64 a2)]] => fun k => g ⟨a1, a2⟩ (fun z0 => k (.d (.bool z0)) [.undef]) | _ => fun _ => none
noncomputable def code_98 : Code := (Tryz.f98.body).getD .skip
noncomputable def E_kit_IsTime (g : Nat) : Env A := mkE [] [(1, [0])] [] [] [] [] [] [] [] []
theorem sm_kit_IsTime (g : Nat) : Same (SS_kit_IsTime (@kit_IsTime_ g)) (abody (E_kit_IsTime g) Tryz.f98 code_98 1 [] [.asis] g) := by intro args; unfold SS_kit_IsTime; split; exact .inr fun R k => (by kernel_rfl); exact .inl fun R k => rfl
theorem ok_kit_IsTime [Fuel] : Ok 98 (SS_kit_IsTime (@kit_IsTime _)) := okF_of std .nil ⟨rfl, rfl, by kernel_rfl, rfl, rfl, rfl⟩ (sm_kit_IsTime NN) (cuts0 (fun _ => rfl) (by kernel_rfl)) Tryz.func98 (by kernel_rfl) (by kernel_rfl)
abbrev T_strings_Compare : Type 1 := List UInt8 → List UInt8 → {R : Type} → (Int → Option R) → Option R
def strings_Compare [Fuel] : T_strings_Compare := @X_cmp
def SS_strings_Compare (g : T_strings_Compare) : Spec A := SSX_cmp g
theorem ok_strings_Compare [Fuel] : Ok 79 (SS_strings_Compare (@strings_Compare _)) := ⟨ssx_cmp_sound (cmp_sound (Any.strings_Compare Tryz.lays106)), ssx_cmp_nat, enters_of (fn := Tryz.f79) Tryz.func79 (by kernel_rfl) (by kernel_rfl)⟩
abbrev T_cmp_Or__int : Type 1 := List Int → {R : Type} → (Int → Option R) → Option R
def cmp_Or__int_L3 (g : Nat) : Nat → Int → List Int → Int → Int → {R : Type} → (Int → Int → Option R) → (Int → Option R) → Option R
  | 0, _, _, _, _, _, _, _ => none
  | n + 1, v2, v3, v4, v5, _, e0, e1 => (bif (decide (v5 < v4)) then (get_ v3 v5 fun x7 => (bif (x7 != v2) then e0 x7 v2 else cmp_Or__int_L3 g n v2 v3 v4 (w64 (v5 + 1)) e0 e1)) else e1 v2)
def cmp_Or__int_ (g : Nat) (a1 : List Int) {R : Type} (k0 : Int → Option R) : Option R :=
  (cmp_Or__int_L3 g g 0 a1 (a1.length : Int) 0 (fun e8 e9 => k0 e8) (fun e10 => k0 e10))
noncomputable def cmp_Or__int [Fuel] : T_cmp_Or__int := @cmp_Or__int_ NN
def SS_cmp_Or__int (g : T_cmp_Or__int) : Spec A := fun args => match args with | [.d (.sl 3 a1)] => fun k => g a1 (fun z0 => k (.d (.int .i64 z0)) [.undef]) | _ => fun _ => none
def sh_cmp_Or__int_L3 : SSt := mkSh 18 0 [(3, .int .i64), (6, .sl 3), (7, .int .i64), (8, .int .i64)] []
def LP_cmp_Or__int_L3 (g : Nat) (n : Nat) : LPT A := fun ps => match ps with | [.d (.int .i64 p1), .d (.sl 3 p2), .d (.int .i64 p3), .d (.int .i64 p4)] => fun K => cmp_Or__int_L3 g n p1 p2 p3 p4 (fun z0 z1 => K .ret (mkSt 18 0 [(2, .d (.int .i64 z0)), (3, .d (.int .i64 z1))] [])) (fun z0 => K (.exit 0) (mkSt 18 0 [(3, .d (.int .i64 z0))] [])) | _ => fun _ => none
noncomputable def code_78 : Code := (Tryz.f78.body).getD .skip
noncomputable def E_cmp_Or__int (g : Nat) : Env A := mkE [] [] [(3, ⟨[3, 6, 7, 8], [], [], []⟩)] [(3, ⟨[2, 3], [], [], []⟩)] [(3, pieceOf sh_cmp_Or__int_L3 (LP_cmp_Or__int_L3 g g))] [] [] [] [] []
theorem ct_cmp_Or__int [Fuel] : NatTab (E_cmp_Or__int NN).C := ct_of (P := Tryz.prog) (T := T) .nil (by kernel_rfl)
noncomputable def cb_cmp_Or__int_L3 : Code := sub [1, 1, 0, 1, 0, 0] code_78
theorem s_cmp_Or__int_L3 (g : Nat) (n : Nat) : StepOk (E_cmp_Or__int g) g cb_cmp_Or__int_L3 sh_cmp_Or__int_L3 (LP_cmp_Or__int_L3 g) n := by intro ps; unfold LP_cmp_Or__int_L3; split; exact .inr fun R K => (by kernel_rfl); exact .inl fun R K => rfl
theorem lf_cmp_Or__int_L3 [Fuel] : LoopFine (E_cmp_Or__int NN) NN cb_cmp_Or__int_L3 := fine_loop sh_cmp_Or__int_L3 (LP_cmp_Or__int_L3 NN) (by kernel_rfl) ct_cmp_Or__int (cuts0 (fun _ => rfl) (by kernel_rfl)) (fun ps R K => by unfold LP_cmp_Or__int_L3; split <;> (try unfold cmp_Or__int_L3) <;> rfl) (s_cmp_Or__int_L3 NN)
theorem sm_cmp_Or__int (g : Nat) : Same (SS_cmp_Or__int (@cmp_Or__int_ g)) (abody (E_cmp_Or__int g) Tryz.f78 code_78 0 [] [.asis] g) := by intro args; unfold SS_cmp_Or__int; split; exact .inr fun R k => (by kernel_rfl); exact .inl fun R k => rfl
theorem ok_cmp_Or__int [Fuel] : Ok 78 (SS_cmp_Or__int (@cmp_Or__int _)) := okF_of std .nil ⟨rfl, rfl, by kernel_rfl, rfl, rfl, rfl⟩ (sm_cmp_Or__int NN) (cutsL (fun _ => rfl) (.cons lf_cmp_Or__int_L3 .nil) (by kernel_rfl)) Tryz.func78 (by kernel_rfl) (by kernel_rfl)
abbrev T_band_compareBusy : Type 1 := G_Busy → G_Busy → {R : Type} → (Int → Option R) → Option R
structure C_band_compareBusy where
  N : Nat
  cmp_Or__int : T_cmp_Or__int
  strings_Compare : T_strings_Compare
  cmp_Compare__int : T_cmp_Compare__int
def band_compareBusy_ (g : C_band_compareBusy) (a1 a2 : G_Busy) {R : Type} (k0 : Int → Option R) : Option R :=
  (g.cmp_Compare__int a1.f_Time.f_From a2.f_Time.f_From (fun r3 => (g.cmp_Compare__int a1.f_Hertz a2.f_Hertz (fun r4 => (g.strings_Compare a1.f_Who a2.f_Who (fun r5 => (g.cmp_Or__int [r3, r4, r5] (fun r6 => k0 r6))))))))
noncomputable def I_band_compareBusy [Fuel] : C_band_compareBusy := ⟨NN, @cmp_Or__int _, @strings_Compare _, @cmp_Compare__int _⟩
noncomputable def band_compareBusy [Fuel] : T_band_compareBusy := @band_compareBusy_ I_band_compareBusy
def SS_band_compareBusy (g : T_band_compareBusy) : Spec A := fun args => match args with | [.agg [.d (.str a1), .d (.int .i64 a2), .d (.int .i64 a3), .d (.int .i64 a4), .d (.int .i64 a5)], .agg [.d (.str a6), .d (.int .i64 a7), .d (.int .i64 a8), .d (.int .i64 a9), .d (.int .i64 a10)]] => fun k => g ⟨a1, a2, a3, ⟨a4, a5⟩⟩ ⟨a6, a7, a8, ⟨a9, a10⟩⟩ (fun z0 => k (.d (.int .i64 z0)) [.undef, .undef]) | _ => fun _ => none
noncomputable def code_99 : Code := (Tryz.f99.body).getD .skip
noncomputable def E_band_compareBusy (g : C_band_compareBusy) : Env A := mkE [(78, SS_cmp_Or__int g.cmp_Or__int), (79, SS_strings_Compare g.strings_Compare), (106, SS_cmp_Compare__int g.cmp_Compare__int)] [(2, [0]), (3, [1]), (22, [2])] [] [] [] [] [] [] [] []
theorem sm_band_compareBusy (g : C_band_compareBusy) : Same (SS_band_compareBusy (@band_compareBusy_ g)) (abody (E_band_compareBusy g) Tryz.f99 code_99 3 [] [.asis] g.N) := by intro args; unfold SS_band_compareBusy; split; exact .inr fun R k => (by kernel_rfl); exact .inl fun R k => rfl
theorem ok_band_compareBusy [Fuel] : Ok 99 (SS_band_compareBusy (@band_compareBusy _)) := okF_of std (.cons ok_cmp_Or__int (.cons ok_strings_Compare (.cons ok_cmp_Compare__int .nil))) ⟨rfl, rfl, by kernel_rfl, rfl, rfl, rfl⟩ (sm_band_compareBusy I_band_compareBusy) (cuts0 (fun _ => rfl) (by kernel_rfl)) Tryz.func99 (by kernel_rfl) (by kernel_rfl)
abbrev T_band_CheckBusy : Type 1 := List G_Busy → {R : Type} → (Int → Option R) → Option R
structure C_band_CheckBusy where
  N : Nat
  kit_Outside : T_kit_Outside
  call_Is : T_call_Is
  kit_IsTime : T_kit_IsTime
  band_compareBusy : T_band_compareBusy
def band_CheckBusy_L4 (g : C_band_CheckBusy) : Nat → List G_Busy → List G_Busy → Int → Int → {R : Type} → (Int → Option R) → Option R → Option R
  | 0, _, _, _, _, _, _, _ => none
  | n + 1, v2, v3, v4, v5, _, e0, e1 => (bif (decide (v5 < v4)) then (get_ v3 v5 fun x13 => (g.call_Is x13.f_Who (fun r14 => (bif (!r14) then e0 3 else (g.kit_Outside x13.f_Hertz 0 30000000000 (fun r15 => (bif r15 then e0 1 else (g.kit_Outside x13.f_Width 1 100000 (fun r16 => (bif r16 then e0 1 else (g.kit_IsTime x13.f_Time (fun r17 => (bif (!r17) then e0 1 else (bif (decide (v5 > 0)) then (get_ v2 (w64 (v5 - 1)) fun x18 => (g.band_compareBusy x18 x13 (fun r19 => (bif (decide (r19 ≥ 0)) then e0 7 else band_CheckBusy_L4 g n v2 v3 v4 (w64 (v5 + 1)) e0 e1)))) else band_CheckBusy_L4 g n v2 v3 v4 (w64 (v5 + 1)) e0 e1)))))))))))))) else e1)
def band_CheckBusy_ (g : C_band_CheckBusy) (a1 : List G_Busy) {R : Type} (k0 : Int → Option R) : Option R :=
  (bif (decide ((a1.length : Int) > 500)) then k0 2 else (band_CheckBusy_L4 g g.N a1 a1 (a1.length : Int) 0 (fun e20 => k0 e20) (k0 0)))
noncomputable def I_band_CheckBusy [Fuel] : C_band_CheckBusy := ⟨NN, @kit_Outside _, @call_Is _, @kit_IsTime _, @band_compareBusy _⟩
noncomputable def band_CheckBusy [Fuel] : T_band_CheckBusy := @band_CheckBusy_ I_band_CheckBusy
def SS_band_CheckBusy (g : T_band_CheckBusy) : Spec A := fun args => match args with | [.d (.sl 120 a1)] => fun k => g a1 (fun z0 => k (.d (.int .i64 z0)) [.undef]) | _ => fun _ => none
def sh_band_CheckBusy_L4 : SSt := mkSh 49 1 [(0, .sl 120), (8, .sl 120), (9, .int .i64), (10, .int .i64)] []
def LP_band_CheckBusy_L4 (g : C_band_CheckBusy) (n : Nat) : LPT A := fun ps => match ps with | [.d (.sl 120 p1), .d (.sl 120 p2), .d (.int .i64 p3), .d (.int .i64 p4)] => fun K => band_CheckBusy_L4 g n p1 p2 p3 p4 (fun z0 => K .ret (mkSt 49 1 [(2, .d (.int .i64 z0))] [])) (K (.exit 0) (mkSt 49 1 [] [])) | _ => fun _ => none
noncomputable def code_43 : Code := (Tryz.f43.body).getD .skip
noncomputable def E_band_CheckBusy (g : C_band_CheckBusy) : Env A := mkE [(57, SS_kit_Outside g.kit_Outside), (76, SS_call_Is g.call_Is), (98, SS_kit_IsTime g.kit_IsTime), (99, SS_band_compareBusy g.band_compareBusy)] [(4, [0])] [(4, ⟨[0, 8, 9, 10], [], [], []⟩)] [(4, ⟨[2], [], [], []⟩)] [(4, pieceOf sh_band_CheckBusy_L4 (LP_band_CheckBusy_L4 g g.N))] [] [] [] [] []
theorem ct_band_CheckBusy [Fuel] : NatTab (E_band_CheckBusy I_band_CheckBusy).C := ct_of (P := Tryz.prog) (T := T) (.cons ok_kit_Outside (.cons ok_call_Is (.cons ok_kit_IsTime (.cons ok_band_compareBusy .nil)))) (by kernel_rfl)
noncomputable def cb_band_CheckBusy_L4 : Code := sub [1, 1, 0, 1, 0, 0] code_43
theorem s_band_CheckBusy_L4 (g : C_band_CheckBusy) (n : Nat) : StepOk (E_band_CheckBusy g) g.N cb_band_CheckBusy_L4 sh_band_CheckBusy_L4 (LP_band_CheckBusy_L4 g) n := by intro ps; unfold LP_band_CheckBusy_L4; split; exact .inr fun R K => (by kernel_rfl); exact .inl fun R K => rfl
theorem lf_band_CheckBusy_L4 [Fuel] : LoopFine (E_band_CheckBusy I_band_CheckBusy) NN cb_band_CheckBusy_L4 := fine_loop sh_band_CheckBusy_L4 (LP_band_CheckBusy_L4 I_band_CheckBusy) (by kernel_rfl) ct_band_CheckBusy (cuts0 (fun _ => rfl) (by kernel_rfl)) (fun ps R K => by unfold LP_band_CheckBusy_L4; split <;> (try unfold band_CheckBusy_L4) <;> rfl) (s_band_CheckBusy_L4 I_band_CheckBusy)
theorem sm_band_CheckBusy (g : C_band_CheckBusy) : Same (SS_band_CheckBusy (@band_CheckBusy_ g)) (abody (E_band_CheckBusy g) Tryz.f43 code_43 1 [] [.asis] g.N) := by intro args; unfold SS_band_CheckBusy; split; exact .inr fun R k => (by kernel_rfl); exact .inl fun R k => rfl
theorem ok_band_CheckBusy [Fuel] : Ok 43 (SS_band_CheckBusy (@band_CheckBusy _)) := okF_of std (.cons ok_kit_Outside (.cons ok_call_Is (.cons ok_kit_IsTime (.cons ok_band_compareBusy .nil)))) ⟨rfl, rfl, by kernel_rfl, rfl, rfl, rfl⟩ (sm_band_CheckBusy I_band_CheckBusy) (cutsL (fun _ => rfl) (.cons lf_band_CheckBusy_L4 .nil) (by kernel_rfl)) Tryz.func43 (by kernel_rfl) (by kernel_rfl)
abbrev T_band_used : Type 1 := Int → Int → {R : Type} → (G_Row → Option R) → Option R
def band_used_ (g : Nat) (a1 a2 : Int) {R : Type} (k0 : G_Row → Option R) : Option R :=
  k0 (⟨(w64 (a1 - (w64 (Int.tdiv a2 2)))), (w64 ((w64 (a1 - (w64 (Int.tdiv a2 2)))) + a2))⟩ : G_Row)
noncomputable def band_used [Fuel] : T_band_used := @band_used_ NN
def SS_band_used (g : T_band_used) : Spec A := fun args => match args with | [.d (.int .i64 a1), .d (.int .i64 a2)] => fun k => g a1 a2 (fun z0 => k (.agg [.d (.int .i64 z0.f_From), .d (.int .i64 z0.f_To)]) [.undef, .undef]) | _ => fun _ => none
noncomputable def code_86 : Code := (Tryz.f86.body).getD .skip
noncomputable def E_band_used (g : Nat) : Env A := mkE [] [(4, [0])] [] [] [] [] [] [] [] []
theorem sm_band_used (g : Nat) : Same (SS_band_used (@band_used_ g)) (abody (E_band_used g) Tryz.f86 code_86 1 [] [.asis] g) := by intro args; unfold SS_band_used; split; exact .inr fun R k => (by kernel_rfl); exact .inl fun R k => rfl
theorem ok_band_used [Fuel] : Ok 86 (SS_band_used (@band_used _)) := okF_of std .nil ⟨rfl, rfl, by kernel_rfl, rfl, rfl, rfl⟩ (sm_band_used NN) (cuts0 (fun _ => rfl) (by kernel_rfl)) Tryz.func86 (by kernel_rfl) (by kernel_rfl)
abbrev T_band_meet : Type 1 := G_Row → G_Row → {R : Type} → (Bool → Option R) → Option R
def band_meet_ (g : Nat) (a1 a2 : G_Row) {R : Type} (k0 : Bool → Option R) : Option R :=
  (bif (decide (a1.f_From < a2.f_To)) then k0 (decide (a2.f_From < a1.f_To)) else k0 false)
noncomputable def band_meet [Fuel] : T_band_meet := @band_meet_ NN
def SS_band_meet (g : T_band_meet) : Spec A := fun args => match args with | [.agg [.d (.int .i64 a1), .d (.int .i64 a2)], .agg [.d (.int .i64 a3), .d (.int .i64 a4)]] => fun k => g ⟨a1, a2⟩ ⟨a3, a4⟩ (fun z0 => k (.d (.bool z0)) [.undef, .undef]) | _ => fun _ => none
noncomputable def code_85 : Code := (Tryz.f85.body).getD .skip
noncomputable def E_band_meet (g : Nat) : Env A := mkE [] [(2, [0]), (3, [1])] [] [] [] [] [] [] [] []
theorem sm_band_meet (g : Nat) : Same (SS_band_meet (@band_meet_ g)) (abody (E_band_meet g) Tryz.f85 code_85 2 [] [.asis] g) := by intro args; unfold SS_band_meet; split; exact .inr fun R k => (by kernel_rfl); exact .inl fun R k => rfl
theorem ok_band_meet [Fuel] : Ok 85 (SS_band_meet (@band_meet _)) := okF_of std .nil ⟨rfl, rfl, by kernel_rfl, rfl, rfl, rfl⟩ (sm_band_meet NN) (cuts0 (fun _ => rfl) (by kernel_rfl)) Tryz.func85 (by kernel_rfl) (by kernel_rfl)
abbrev T_band_TooNear : Type 1 := List G_Busy → {R : Type} → (List G_Pair → Int → Option R) → Option R
structure C_band_TooNear where
  N : Nat
  band_CheckBusy : T_band_CheckBusy
  band_meet : T_band_meet
  band_used : T_band_used
def band_TooNear_L9 (g : C_band_TooNear) : Nat → List G_Busy → List G_Busy → Int → Int → List G_Busy → Int → Int → G_Busy → List G_Pair → {R : Type} → (List G_Busy → List G_Busy → Int → Int → List G_Pair → Option R) → Option R
  | 0, _, _, _, _, _, _, _, _, _, _, _ => none
  | n + 1, v34, v35, v36, v37, v38, v39, v40, v41, v42, _, e0 => (bif (decide (v40 < v39)) then (get_ v38 v40 fun x48 => (bif (!(v41.f_Who == x48.f_Who)) then (g.band_used v41.f_Hertz v41.f_Width (fun r49 => (g.band_used x48.f_Hertz x48.f_Width (fun r50 => (g.band_meet r49 r50 (fun r51 => (bif r51 then (g.band_meet (⟨v41.f_Time.f_From, v41.f_Time.f_To⟩ : G_Row) (⟨x48.f_Time.f_From, x48.f_Time.f_To⟩ : G_Row) (fun r52 => (bif r52 then (bif (decide ((v42.length + [(⟨v41.f_Who, x48.f_Who⟩ : G_Pair)].length) * 32 ≤ roomBytes')) then band_TooNear_L9 g n v34 v35 v36 v37 v38 v39 (w64 (v40 + 1)) v41 (v42 ++ [(⟨v41.f_Who, x48.f_Who⟩ : G_Pair)]) e0 else none) else band_TooNear_L9 g n v34 v35 v36 v37 v38 v39 (w64 (v40 + 1)) v41 v42 e0))) else band_TooNear_L9 g n v34 v35 v36 v37 v38 v39 (w64 (v40 + 1)) v41 v42 e0))))))) else band_TooNear_L9 g n v34 v35 v36 v37 v38 v39 (w64 (v40 + 1)) v41 v42 e0)) else e0 v34 v35 v36 v37 v42)
def band_TooNear_L6 (g : C_band_TooNear) : Nat → List G_Busy → List G_Busy → Int → Int → List G_Pair → {R : Type} → (List G_Pair → Option R) → Option R
  | 0, _, _, _, _, _, _, _ => none
  | n + 1, v3, v4, v5, v6, v7, _, e0 => (bif (decide (v6 < v5)) then (get_ v4 v6 fun x33 => (bif (decide (0 ≤ (w64 (v6 + 1))) && decide ((w64 (v6 + 1)) ≤ (v3.length : Int))) then (band_TooNear_L9 g g.N v3 v4 v5 v6 (v3.drop ((w64 (v6 + 1)) : Int).toNat) ((v3.drop ((w64 (v6 + 1)) : Int).toNat).length : Int) 0 x33 v7 (fun e53 e54 e55 e56 e57 => band_TooNear_L6 g n e53 e54 e55 (w64 (e56 + 1)) e57 e0)) else none)) else e0 v7)
def band_TooNear_ (g : C_band_TooNear) (a1 : List G_Busy) {R : Type} (k0 : List G_Pair → Int → Option R) : Option R :=
  (g.band_CheckBusy a1 (fun r2 => (bif (r2 != 0) then k0 [] r2 else (band_TooNear_L6 g g.N a1 a1 (a1.length : Int) 0 [] (fun e58 => k0 e58 0)))))
noncomputable def I_band_TooNear [Fuel] : C_band_TooNear := ⟨NN, @band_CheckBusy _, @band_meet _, @band_used _⟩
noncomputable def band_TooNear [Fuel] : T_band_TooNear := @band_TooNear_ I_band_TooNear
def SS_band_TooNear (g : T_band_TooNear) : Spec A := fun args => match args with | [.d (.sl 120 a1)] => fun k => g a1 (fun z0 z1 => k (.tup [.arr 77 z0, .d (.int .i64 z1)]) [.undef]) | _ => fun _ => none
def sh_band_TooNear_L9 : SSt := mkSh 67 6 [(0, .sl 120), (5, .own 77 2), (7, .ptr 1 0), (15, .sl 120), (16, .int .i64), (17, .int .i64), (25, .sl 120), (26, .int .i64), (27, .int .i64)] [(1, .box [.str, .int .i64, .int .i64, .int .i64, .int .i64]), (2, .row 77)]
def LP_band_TooNear_L9 (g : C_band_TooNear) (n : Nat) : LPT A := fun ps => match ps with | [.d (.sl 120 p1), .d (.sl 120 p2), .d (.int .i64 p3), .d (.int .i64 p4), .d (.sl 120 p5), .d (.int .i64 p6), .d (.int .i64 p7), .d (.str p8), .d (.int .i64 p9), .d (.int .i64 p10), .d (.int .i64 p11), .d (.int .i64 p12), .d (.sl 77 p13)] => fun K => band_TooNear_L9 g n p1 p2 p3 p4 p5 p6 p7 ⟨p8, p9, p10, ⟨p11, p12⟩⟩ p13 (fun z0 z1 z2 z3 z4 => K (.exit 2) (mkSt 67 6 [(0, .d (.sl 120 z0)), (5, .own 77 2), (15, .d (.sl 120 z1)), (16, .d (.int .i64 z2)), (17, .d (.int .i64 z3))] [(2, some (.row 77 z4))])) | _ => fun _ => none
def sh_band_TooNear_L6 : SSt := mkSh 67 6 [(0, .sl 120), (5, .own 77 0), (15, .sl 120), (16, .int .i64), (17, .int .i64)] [(0, .row 77)]
def LP_band_TooNear_L6 (g : C_band_TooNear) (n : Nat) : LPT A := fun ps => match ps with | [.d (.sl 120 p1), .d (.sl 120 p2), .d (.int .i64 p3), .d (.int .i64 p4), .d (.sl 77 p5)] => fun K => band_TooNear_L6 g n p1 p2 p3 p4 p5 (fun z0 => K (.exit 0) (mkSt 67 6 [(5, .own 77 0)] [(0, some (.row 77 z0))])) | _ => fun _ => none
noncomputable def code_29 : Code := (Tryz.f29.body).getD .skip
noncomputable def E_band_TooNear (g : C_band_TooNear) : Env A := mkE [(43, SS_band_CheckBusy g.band_CheckBusy), (85, SS_band_meet g.band_meet), (86, SS_band_used g.band_used)] [(7, [1]), (9, [3]), (62, [4]), (63, [5])] [(9, ⟨[0, 5, 7, 15, 16, 17, 25, 26, 27], [(5, 77, 2)], [1], []⟩), (6, ⟨[0, 5, 15, 16, 17], [(5, 77, 0)], [], []⟩)] [(9, ⟨[0, 5, 15, 16, 17], [], [2], []⟩), (6, ⟨[5], [], [0], []⟩)] [(9, pieceOf sh_band_TooNear_L9 (LP_band_TooNear_L9 g g.N)), (6, pieceOf sh_band_TooNear_L6 (LP_band_TooNear_L6 g g.N))] [] [] [] [] []
theorem ct_band_TooNear [Fuel] : NatTab (E_band_TooNear I_band_TooNear).C := ct_of (P := Tryz.prog) (T := T) (.cons ok_band_CheckBusy (.cons ok_band_meet (.cons ok_band_used .nil))) (by kernel_rfl)
noncomputable def cb_band_TooNear_L9 : Code := sub [1, 1, 1, 0, 1, 0, 0, 1, 1, 0, 0, 1, 1, 0, 0] code_29
theorem s_band_TooNear_L9 (g : C_band_TooNear) (n : Nat) : StepOk (E_band_TooNear g) g.N cb_band_TooNear_L9 sh_band_TooNear_L9 (LP_band_TooNear_L9 g) n := by intro ps; unfold LP_band_TooNear_L9; split; exact .inr fun R K => (by kernel_rfl); exact .inl fun R K => rfl
theorem lf_band_TooNear_L9 [Fuel] : LoopFine (E_band_TooNear I_band_TooNear) NN cb_band_TooNear_L9 := fine_loop sh_band_TooNear_L9 (LP_band_TooNear_L9 I_band_TooNear) (by kernel_rfl) ct_band_TooNear (cuts0 (fun _ => rfl) (by kernel_rfl)) (fun ps R K => by unfold LP_band_TooNear_L9; split <;> (try unfold band_TooNear_L9) <;> rfl) (s_band_TooNear_L9 I_band_TooNear)
noncomputable def cb_band_TooNear_L6 : Code := sub [1, 1, 1, 0, 1, 0, 0] code_29
theorem s_band_TooNear_L6 (g : C_band_TooNear) (n : Nat) : StepOk (E_band_TooNear g) g.N cb_band_TooNear_L6 sh_band_TooNear_L6 (LP_band_TooNear_L6 g) n := by intro ps; unfold LP_band_TooNear_L6; split; exact .inr fun R K => (by kernel_rfl); exact .inl fun R K => rfl
theorem lf_band_TooNear_L6 [Fuel] : LoopFine (E_band_TooNear I_band_TooNear) NN cb_band_TooNear_L6 := fine_loop sh_band_TooNear_L6 (LP_band_TooNear_L6 I_band_TooNear) (by kernel_rfl) ct_band_TooNear (cutsL (fun _ => rfl) (.cons lf_band_TooNear_L9 .nil) (by kernel_rfl)) (fun ps R K => by unfold LP_band_TooNear_L6; split <;> (try unfold band_TooNear_L6) <;> rfl) (s_band_TooNear_L6 I_band_TooNear)
theorem sm_band_TooNear (g : C_band_TooNear) : Same (SS_band_TooNear (@band_TooNear_ g)) (abody (E_band_TooNear g) Tryz.f29 code_29 6 [] [.arr 77, .asis] g.N) := by intro args; unfold SS_band_TooNear; split; exact .inr fun R k => (by kernel_rfl); exact .inl fun R k => rfl
theorem ok_band_TooNear [Fuel] : Ok 29 (SS_band_TooNear (@band_TooNear _)) := okF_of std (.cons ok_band_CheckBusy (.cons ok_band_meet (.cons ok_band_used .nil))) ⟨rfl, rfl, by kernel_rfl, rfl, rfl, rfl⟩ (sm_band_TooNear I_band_TooNear) (cutsL (fun _ => rfl) (.cons lf_band_TooNear_L9 (.cons lf_band_TooNear_L6 .nil)) (by kernel_rfl)) Tryz.func29 (by kernel_rfl) (by kernel_rfl)
abbrev T_strings_IndexByte : Type 1 := List UInt8 → Int → {R : Type} → (Int → Option R) → Option R
def strings_IndexByte [Fuel] : T_strings_IndexByte := @X_ixb
def SS_strings_IndexByte (g : T_strings_IndexByte) : Spec A := SSX_ixb g
theorem ok_strings_IndexByte [Fuel] : Ok 102 (SS_strings_IndexByte (@strings_IndexByte _)) := ⟨ssx_ixb_sound (ixb_sound (Any.strings_IndexByte Tryz.lays137)), ssx_ixb_nat, enters_of (fn := Tryz.f102) Tryz.func102 (by kernel_rfl) (by kernel_rfl)⟩
abbrev T_strings_Trim : Type 1 := List UInt8 → List UInt8 → {R : Type} → (List UInt8 → Option R) → Option R
def strings_Trim [Fuel] : T_strings_Trim := @X_trim
def SS_strings_Trim (g : T_strings_Trim) : Spec A := SSX_trim g
theorem ok_strings_Trim [Fuel] : Ok 103 (SS_strings_Trim (@strings_Trim _)) := ⟨ssx_trim_sound (trim_sound rfl (fun s cs w h1 h2 h3 => Any.strings_Trim_laid Tryz.lays160 (by kernel_rfl) s cs w h1 h2 h3)), ssx_trim_nat, enters_of (fn := Tryz.f103) Tryz.func103 (by kernel_rfl) (by kernel_rfl)⟩
abbrev T_kit_IsKey : Type 1 := List UInt8 → {R : Type} → (Bool → Option R) → Option R
structure C_kit_IsKey where
  N : Nat
  strings_IndexByte : T_strings_IndexByte
  strings_Trim : T_strings_Trim
def kit_IsKey_ (g : C_kit_IsKey) (a1 : List UInt8) {R : Type} (k0 : Bool → Option R) : Option R :=
  (bif (!(a1 == [])) then (bif (decide ((a1.length : Int) ≤ 40)) then (at_ a1 0 fun x2 => (g.strings_IndexByte [97, 98, 99, 100, 101, 102, 103, 104, 105, 106, 107, 108, 109, 110, 111, 112, 113, 114, 115, 116, 117, 118, 119, 120, 121, 122] (x2.toNat : Int) (fun r3 => (bif (decide (r3 ≥ 0)) then (g.strings_Trim a1 [97, 98, 99, 100, 101, 102, 103, 104, 105, 106, 107, 108, 109, 110, 111, 112, 113, 114, 115, 116, 117, 118, 119, 120, 121, 122, 48, 49, 50, 51, 52, 53, 54, 55, 56, 57, 45, 95] (fun r4 => k0 (r4 == []))) else k0 false)))) else k0 false) else k0 false)
noncomputable def I_kit_IsKey [Fuel] : C_kit_IsKey := ⟨NN, @strings_IndexByte _, @strings_Trim _⟩
noncomputable def kit_IsKey [Fuel] : T_kit_IsKey := @kit_IsKey_ I_kit_IsKey
def SS_kit_IsKey (g : T_kit_IsKey) : Spec A := fun args => match args with | [.d (.str a1)] => fun k => g a1 (fun z0 => k (.d (.bool z0)) [.undef]) | _ => fun _ => none
noncomputable def code_53 : Code := (Tryz.f53.body).getD .skip
noncomputable def E_kit_IsKey (g : C_kit_IsKey) : Env A := mkE [(102, SS_strings_IndexByte g.strings_IndexByte), (103, SS_strings_Trim g.strings_Trim)] [] [] [] [] [] [] [] [] []
theorem sm_kit_IsKey (g : C_kit_IsKey) : Same (SS_kit_IsKey (@kit_IsKey_ g)) (abody (E_kit_IsKey g) Tryz.f53 code_53 0 [] [.asis] g.N) := by intro args; unfold SS_kit_IsKey; split; exact .inr fun R k => (by kernel_rfl); exact .inl fun R k => rfl
theorem ok_kit_IsKey [Fuel] : Ok 53 (SS_kit_IsKey (@kit_IsKey _)) := okF_of std (.cons ok_strings_IndexByte (.cons ok_strings_Trim .nil)) ⟨rfl, rfl, by kernel_rfl, rfl, rfl, rfl⟩ (sm_kit_IsKey I_kit_IsKey) (cuts0 (fun _ => rfl) (by kernel_rfl)) Tryz.func53 (by kernel_rfl) (by kernel_rfl)
abbrev T_kit_IsMode : Type 1 := Int → {R : Type} → (Bool → Option R) → Option R
structure C_kit_IsMode where
  N : Nat
  kit_Outside : T_kit_Outside
def kit_IsMode_ (g : C_kit_IsMode) (a1 : Int) {R : Type} (k0 : Bool → Option R) : Option R :=
  (g.kit_Outside a1 1 3 (fun r2 => k0 (!r2)))
noncomputable def I_kit_IsMode [Fuel] : C_kit_IsMode := ⟨NN, @kit_Outside _⟩
noncomputable def kit_IsMode [Fuel] : T_kit_IsMode := @kit_IsMode_ I_kit_IsMode
def SS_kit_IsMode (g : T_kit_IsMode) : Spec A := fun args => match args with | [.d (.int .i64 a1)] => fun k => g a1 (fun z0 => k (.d (.bool z0)) [.undef]) | _ => fun _ => none
noncomputable def code_127 : Code := (Tryz.f127.body).getD .skip
noncomputable def E_kit_IsMode (g : C_kit_IsMode) : Env A := mkE [(57, SS_kit_Outside g.kit_Outside)] [] [] [] [] [] [] [] [] []
theorem sm_kit_IsMode (g : C_kit_IsMode) : Same (SS_kit_IsMode (@kit_IsMode_ g)) (abody (E_kit_IsMode g) Tryz.f127 code_127 0 [] [.asis] g.N) := by intro args; unfold SS_kit_IsMode; split; exact .inr fun R k => (by kernel_rfl); exact .inl fun R k => rfl
theorem ok_kit_IsMode [Fuel] : Ok 127 (SS_kit_IsMode (@kit_IsMode _)) := okF_of std (.cons ok_kit_Outside .nil) ⟨rfl, rfl, by kernel_rfl, rfl, rfl, rfl⟩ (sm_kit_IsMode I_kit_IsMode) (cuts0 (fun _ => rfl) (by kernel_rfl)) Tryz.func127 (by kernel_rfl) (by kernel_rfl)
abbrev T_band_modesFault : Type 1 := List Int → {R : Type} → (Int → Option R) → Option R
structure C_band_modesFault where
  N : Nat
  kit_IsMode : T_kit_IsMode
def band_modesFault_L4 (g : C_band_modesFault) : Nat → List Int → List Int → Int → Int → {R : Type} → (Int → Option R) → Option R → Option R
  | 0, _, _, _, _, _, _, _ => none
  | n + 1, v2, v3, v4, v5, _, e0, e1 => (bif (decide (v5 < v4)) then (get_ v3 v5 fun x9 => (g.kit_IsMode x9 (fun r10 => (bif (!r10) then e0 4 else (bif (decide (v5 > 0)) then (get_ v2 (w64 (v5 - 1)) fun x11 => (bif (decide (x9 ≤ x11)) then e0 7 else band_modesFault_L4 g n v2 v3 v4 (w64 (v5 + 1)) e0 e1)) else band_modesFault_L4 g n v2 v3 v4 (w64 (v5 + 1)) e0 e1))))) else e1)
def band_modesFault_ (g : C_band_modesFault) (a1 : List Int) {R : Type} (k0 : Int → Option R) : Option R :=
  (bif ((a1.length : Int) == 0) then k0 8 else (band_modesFault_L4 g g.N a1 a1 (a1.length : Int) 0 (fun e12 => k0 e12) (k0 0)))
noncomputable def I_band_modesFault [Fuel] : C_band_modesFault := ⟨NN, @kit_IsMode _⟩
noncomputable def band_modesFault [Fuel] : T_band_modesFault := @band_modesFault_ I_band_modesFault
def SS_band_modesFault (g : T_band_modesFault) : Spec A := fun args => match args with | [.d (.sl 3 a1)] => fun k => g a1 (fun z0 => k (.d (.int .i64 z0)) [.undef]) | _ => fun _ => none
def sh_band_modesFault_L4 : SSt := mkSh 30 0 [(0, .sl 3), (8, .sl 3), (9, .int .i64), (10, .int .i64)] []
def LP_band_modesFault_L4 (g : C_band_modesFault) (n : Nat) : LPT A := fun ps => match ps with | [.d (.sl 3 p1), .d (.sl 3 p2), .d (.int .i64 p3), .d (.int .i64 p4)] => fun K => band_modesFault_L4 g n p1 p2 p3 p4 (fun z0 => K .ret (mkSt 30 0 [(2, .d (.int .i64 z0))] [])) (K (.exit 0) (mkSt 30 0 [] [])) | _ => fun _ => none
noncomputable def code_180 : Code := (Tryz.f180.body).getD .skip
noncomputable def E_band_modesFault (g : C_band_modesFault) : Env A := mkE [(127, SS_kit_IsMode g.kit_IsMode)] [] [(4, ⟨[0, 8, 9, 10], [], [], []⟩)] [(4, ⟨[2], [], [], []⟩)] [(4, pieceOf sh_band_modesFault_L4 (LP_band_modesFault_L4 g g.N))] [] [] [] [] []
theorem ct_band_modesFault [Fuel] : NatTab (E_band_modesFault I_band_modesFault).C := ct_of (P := Tryz.prog) (T := T) (.cons ok_kit_IsMode .nil) (by kernel_rfl)
noncomputable def cb_band_modesFault_L4 : Code := sub [1, 1, 0, 1, 0, 0] code_180
theorem s_band_modesFault_L4 (g : C_band_modesFault) (n : Nat) : StepOk (E_band_modesFault g) g.N cb_band_modesFault_L4 sh_band_modesFault_L4 (LP_band_modesFault_L4 g) n := by intro ps; unfold LP_band_modesFault_L4; split; exact .inr fun R K => (by kernel_rfl); exact .inl fun R K => rfl
theorem lf_band_modesFault_L4 [Fuel] : LoopFine (E_band_modesFault I_band_modesFault) NN cb_band_modesFault_L4 := fine_loop sh_band_modesFault_L4 (LP_band_modesFault_L4 I_band_modesFault) (by kernel_rfl) ct_band_modesFault (cuts0 (fun _ => rfl) (by kernel_rfl)) (fun ps R K => by unfold LP_band_modesFault_L4; split <;> (try unfold band_modesFault_L4) <;> rfl) (s_band_modesFault_L4 I_band_modesFault)
theorem sm_band_modesFault (g : C_band_modesFault) : Same (SS_band_modesFault (@band_modesFault_ g)) (abody (E_band_modesFault g) Tryz.f180 code_180 0 [] [.asis] g.N) := by intro args; unfold SS_band_modesFault; split; exact .inr fun R k => (by kernel_rfl); exact .inl fun R k => rfl
theorem ok_band_modesFault [Fuel] : Ok 180 (SS_band_modesFault (@band_modesFault _)) := okF_of std (.cons ok_kit_IsMode .nil) ⟨rfl, rfl, by kernel_rfl, rfl, rfl, rfl⟩ (sm_band_modesFault I_band_modesFault) (cutsL (fun _ => rfl) (.cons lf_band_modesFault_L4 .nil) (by kernel_rfl)) Tryz.func180 (by kernel_rfl) (by kernel_rfl)
abbrev T_band_compareSegments : Type 1 := G_Segment → G_Segment → {R : Type} → (Int → Option R) → Option R
structure C_band_compareSegments where
  N : Nat
  cmp_Or__int : T_cmp_Or__int
  strings_Compare : T_strings_Compare
  cmp_Compare__int : T_cmp_Compare__int
def band_compareSegments_ (g : C_band_compareSegments) (a1 a2 : G_Segment) {R : Type} (k0 : Int → Option R) : Option R :=
  (g.strings_Compare a1.f_Class a2.f_Class (fun r3 => (g.cmp_Compare__int a1.f_Low a2.f_Low (fun r4 => (g.cmp_Compare__int a1.f_High a2.f_High (fun r5 => (g.cmp_Compare__int a1.f_Time.f_From a2.f_Time.f_From (fun r6 => (g.cmp_Or__int [r3, r4, r5, r6] (fun r7 => k0 r7))))))))))
noncomputable def I_band_compareSegments [Fuel] : C_band_compareSegments := ⟨NN, @cmp_Or__int _, @strings_Compare _, @cmp_Compare__int _⟩
noncomputable def band_compareSegments [Fuel] : T_band_compareSegments := @band_compareSegments_ I_band_compareSegments
def SS_band_compareSegments (g : T_band_compareSegments) : Spec A := fun args => match args with | [.agg [.d (.str a1), .d (.int .i64 a2), .d (.int .i64 a3), .d (.sl 3 a4), .d (.int .i64 a5), .d (.int .i64 a6)], .agg [.d (.str a7), .d (.int .i64 a8), .d (.int .i64 a9), .d (.sl 3 a10), .d (.int .i64 a11), .d (.int .i64 a12)]] => fun k => g ⟨a1, a2, a3, a4, ⟨a5, a6⟩⟩ ⟨a7, a8, a9, a10, ⟨a11, a12⟩⟩ (fun z0 => k (.d (.int .i64 z0)) [.undef, .undef]) | _ => fun _ => none
noncomputable def code_181 : Code := (Tryz.f181.body).getD .skip
noncomputable def E_band_compareSegments (g : C_band_compareSegments) : Env A := mkE [(78, SS_cmp_Or__int g.cmp_Or__int), (79, SS_strings_Compare g.strings_Compare), (106, SS_cmp_Compare__int g.cmp_Compare__int)] [(2, [0]), (3, [1]), (27, [2])] [] [] [] [] [] [] [] []
theorem sm_band_compareSegments (g : C_band_compareSegments) : Same (SS_band_compareSegments (@band_compareSegments_ g)) (abody (E_band_compareSegments g) Tryz.f181 code_181 3 [] [.asis] g.N) := by intro args; unfold SS_band_compareSegments; split; exact .inr fun R k => (by kernel_rfl); exact .inl fun R k => rfl
theorem ok_band_compareSegments [Fuel] : Ok 181 (SS_band_compareSegments (@band_compareSegments _)) := okF_of std (.cons ok_cmp_Or__int (.cons ok_strings_Compare (.cons ok_cmp_Compare__int .nil))) ⟨rfl, rfl, by kernel_rfl, rfl, rfl, rfl⟩ (sm_band_compareSegments I_band_compareSegments) (cuts0 (fun _ => rfl) (by kernel_rfl)) Tryz.func181 (by kernel_rfl) (by kernel_rfl)
abbrev T_band_CheckSegments : Type 1 := List G_Segment → {R : Type} → (Int → Option R) → Option R
structure C_band_CheckSegments where
  N : Nat
  kit_IsKey : T_kit_IsKey
  kit_IsTime : T_kit_IsTime
  band_modesFault : T_band_modesFault
  band_compareSegments : T_band_compareSegments
def band_CheckSegments_L4 (g : C_band_CheckSegments) : Nat → List G_Segment → List G_Segment → Int → Int → {R : Type} → (Int → Option R) → Option R → Option R
  | 0, _, _, _, _, _, _, _ => none
  | n + 1, v2, v3, v4, v5, _, e0, e1 => (bif (decide (v5 < v4)) then (get_ v3 v5 fun x12 => (g.kit_IsKey x12.f_Class (fun r13 => (bif (!r13) then e0 5 else (bif (decide (x12.f_Low < 0)) then e0 1 else (bif (decide (x12.f_Low ≥ x12.f_High)) then e0 1 else (bif (decide (x12.f_High > 30000000000)) then e0 1 else (g.band_modesFault x12.f_Modes (fun r14 => (bif (r14 != 0) then e0 r14 else (g.kit_IsTime x12.f_Time (fun r15 => (bif (!r15) then e0 1 else (bif (decide (v5 > 0)) then (get_ v2 (w64 (v5 - 1)) fun x16 => (g.band_compareSegments x16 x12 (fun r17 => (bif (decide (r17 ≥ 0)) then e0 7 else band_CheckSegments_L4 g n v2 v3 v4 (w64 (v5 + 1)) e0 e1)))) else band_CheckSegments_L4 g n v2 v3 v4 (w64 (v5 + 1)) e0 e1)))))))))))))) else e1)
def band_CheckSegments_ (g : C_band_CheckSegments) (a1 : List G_Segment) {R : Type} (k0 : Int → Option R) : Option R :=
  (bif (decide ((a1.length : Int) > 500)) then k0 2 else (band_CheckSegments_L4 g g.N a1 a1 (a1.length : Int) 0 (fun e18 => k0 e18) (k0 0)))
noncomputable def I_band_CheckSegments [Fuel] : C_band_CheckSegments := ⟨NN, @kit_IsKey _, @kit_IsTime _, @band_modesFault _, @band_compareSegments _⟩
noncomputable def band_CheckSegments [Fuel] : T_band_CheckSegments := @band_CheckSegments_ I_band_CheckSegments
def SS_band_CheckSegments (g : T_band_CheckSegments) : Spec A := fun args => match args with | [.d (.sl 115 a1)] => fun k => g a1 (fun z0 => k (.d (.int .i64 z0)) [.undef]) | _ => fun _ => none
def sh_band_CheckSegments_L4 : SSt := mkSh 58 1 [(0, .sl 115), (9, .sl 115), (10, .int .i64), (11, .int .i64)] []
def LP_band_CheckSegments_L4 (g : C_band_CheckSegments) (n : Nat) : LPT A := fun ps => match ps with | [.d (.sl 115 p1), .d (.sl 115 p2), .d (.int .i64 p3), .d (.int .i64 p4)] => fun K => band_CheckSegments_L4 g n p1 p2 p3 p4 (fun z0 => K .ret (mkSt 58 1 [(2, .d (.int .i64 z0))] [])) (K (.exit 0) (mkSt 58 1 [] [])) | _ => fun _ => none
noncomputable def code_126 : Code := (Tryz.f126.body).getD .skip
noncomputable def E_band_CheckSegments (g : C_band_CheckSegments) : Env A := mkE [(53, SS_kit_IsKey g.kit_IsKey), (98, SS_kit_IsTime g.kit_IsTime), (180, SS_band_modesFault g.band_modesFault), (181, SS_band_compareSegments g.band_compareSegments)] [(4, [0])] [(4, ⟨[0, 9, 10, 11], [], [], []⟩)] [(4, ⟨[2], [], [], []⟩)] [(4, pieceOf sh_band_CheckSegments_L4 (LP_band_CheckSegments_L4 g g.N))] [] [] [] [] []
theorem ct_band_CheckSegments [Fuel] : NatTab (E_band_CheckSegments I_band_CheckSegments).C := ct_of (P := Tryz.prog) (T := T) (.cons ok_kit_IsKey (.cons ok_kit_IsTime (.cons ok_band_modesFault (.cons ok_band_compareSegments .nil)))) (by kernel_rfl)
noncomputable def cb_band_CheckSegments_L4 : Code := sub [1, 1, 0, 1, 0, 0] code_126
theorem s_band_CheckSegments_L4 (g : C_band_CheckSegments) (n : Nat) : StepOk (E_band_CheckSegments g) g.N cb_band_CheckSegments_L4 sh_band_CheckSegments_L4 (LP_band_CheckSegments_L4 g) n := by intro ps; unfold LP_band_CheckSegments_L4; split; exact .inr fun R K => (by kernel_rfl); exact .inl fun R K => rfl
theorem lf_band_CheckSegments_L4 [Fuel] : LoopFine (E_band_CheckSegments I_band_CheckSegments) NN cb_band_CheckSegments_L4 := fine_loop sh_band_CheckSegments_L4 (LP_band_CheckSegments_L4 I_band_CheckSegments) (by kernel_rfl) ct_band_CheckSegments (cuts0 (fun _ => rfl) (by kernel_rfl)) (fun ps R K => by unfold LP_band_CheckSegments_L4; split <;> (try unfold band_CheckSegments_L4) <;> rfl) (s_band_CheckSegments_L4 I_band_CheckSegments)
theorem sm_band_CheckSegments (g : C_band_CheckSegments) : Same (SS_band_CheckSegments (@band_CheckSegments_ g)) (abody (E_band_CheckSegments g) Tryz.f126 code_126 1 [] [.asis] g.N) := by intro args; unfold SS_band_CheckSegments; split; exact .inr fun R k => (by kernel_rfl); exact .inl fun R k => rfl
theorem ok_band_CheckSegments [Fuel] : Ok 126 (SS_band_CheckSegments (@band_CheckSegments _)) := okF_of std (.cons ok_kit_IsKey (.cons ok_kit_IsTime (.cons ok_band_modesFault (.cons ok_band_compareSegments .nil)))) ⟨rfl, rfl, by kernel_rfl, rfl, rfl, rfl⟩ (sm_band_CheckSegments I_band_CheckSegments) (cutsL (fun _ => rfl) (.cons lf_band_CheckSegments_L4 .nil) (by kernel_rfl)) Tryz.func126 (by kernel_rfl) (by kernel_rfl)
end Go.Am
