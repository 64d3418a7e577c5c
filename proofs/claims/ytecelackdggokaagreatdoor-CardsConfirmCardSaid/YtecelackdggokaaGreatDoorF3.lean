/- The functions of the program as Lean functions, each shown to be what the code computes, part 3. No condition: lemmas for the claim. -/
import Derived.Test.YtecelackdggokaaGreatDoorF0
import Derived.Test.YtecelackdggokaaGreatDoorFSh
import Derived.Test.YtecelackdggokaaGreatDoorF1
import Derived.Test.YtecelackdggokaaGreatDoorF2
set_option linter.unusedVariables false
set_option maxRecDepth 100000
namespace Go.Am
open Go Go.Proofs
abbrev T_call_split : Type 1 := List UInt8 → {R : Type} → (Int → Bool → Option R) → Option R
structure C_call_split where
  N : Nat
  strings_LastIndexAny : T_strings_LastIndexAny
  call_isPlain : T_call_isPlain
def call_split_ (g : C_call_split) (a1 : List UInt8) {R : Type} (k0 : Int → Bool → Option R) : Option R :=
  (g.call_isPlain a1 (fun r2 r3 => (bif (!r3) then k0 0 false else (bif (decide ((a1.length : Int) > 10)) then k0 0 false else (g.strings_LastIndexAny a1 [48, 49, 50, 51, 52, 53, 54, 55, 56, 57] (fun r4 => (bif (decide (r4 < 1)) then k0 0 false else (bif (decide (r4 > 3)) then k0 0 false else (bif (decide ((w64 ((w64 ((a1.length : Int) - r4)) - 1)) < 1)) then k0 0 false else (bif (decide ((w64 ((w64 ((a1.length : Int) - r4)) - 1)) > 4)) then k0 0 false else (bif (decide (0 ≤ r4) && decide (r4 ≤ (a1.length : Int))) then (g.call_isPlain (a1.take (r4 : Int).toNat) (fun r5 r6 => k0 r4 (decide (r5 > 0)))) else none)))))))))))
noncomputable def I_call_split [Fuel] : C_call_split := ⟨NN, @strings_LastIndexAny _, @call_isPlain _⟩
noncomputable def call_split [Fuel] : T_call_split := @call_split_ I_call_split
def SS_call_split (g : T_call_split) : Spec A := fun args => match args with | [.d (.str a1)] => fun k => g a1 (fun z0 z1 => k (.tup [.d (.int .i64 z0), .d (.bool z1)]) [.undef]) | _ => fun _ => none
noncomputable def code_312 : Code := (Tryz.f312.body).getD .skip
noncomputable def E_call_split (g : C_call_split) : Env A := mkE [(307, SS_strings_LastIndexAny g.strings_LastIndexAny), (313, SS_call_isPlain g.call_isPlain)] [] [] [] [] [] [] [] [] []
theorem sm_call_split (g : C_call_split) : Same (SS_call_split (@call_split_ g)) (abody (E_call_split g) Tryz.f312 code_312 0 [] [.asis, .asis] g.N) := by intro args; unfold SS_call_split; split; exact .inr fun R k => (by kernel_rfl); exact .inl fun R k => rfl
theorem ok_call_split [Fuel] : Ok 312 (SS_call_split (@call_split _)) := okF_of std (.cons ok_strings_LastIndexAny (.cons ok_call_isPlain .nil)) ⟨rfl, rfl, by kernel_rfl, rfl, rfl⟩ (sm_call_split I_call_split) (cuts0 (fun _ => rfl) (by kernel_rfl)) Tryz.func312 (by kernel_rfl) (by kernel_rfl)
abbrev T_call_based : Type 1 := List UInt8 → {R : Type} → (G_Parts → Bool → Option R) → Option R
structure C_call_based where
  N : Nat
  call_split : T_call_split
def call_based_ (g : C_call_based) (a1 : List UInt8) {R : Type} (k0 : G_Parts → Bool → Option R) : Option R :=
  (g.call_split a1 (fun r2 r3 => (bif (!r3) then k0 (⟨[], [], [], 0, []⟩ : G_Parts) false else (bif (decide (0 ≤ (w64 (r2 + 1))) && decide ((w64 (r2 + 1)) ≤ (a1.length : Int))) then (bif (decide (0 ≤ (w64 (r2 + 1))) && decide ((w64 (r2 + 1)) ≤ (a1.length : Int))) then k0 (⟨a1, (a1.take ((w64 (r2 + 1)) : Int).toNat), (a1.drop ((w64 (r2 + 1)) : Int).toNat), 0, []⟩ : G_Parts) true else none) else none))))
noncomputable def I_call_based [Fuel] : C_call_based := ⟨NN, @call_split _⟩
noncomputable def call_based [Fuel] : T_call_based := @call_based_ I_call_based
def SS_call_based (g : T_call_based) : Spec A := fun args => match args with | [.d (.str a1)] => fun k => g a1 (fun z0 z1 => k (.tup [.agg [.d (.str z0.f_Base), .d (.str z0.f_Prefix), .d (.str z0.f_Suffix), .d (.int .i64 z0.f_Kind), .d (.str z0.f_Added)], .d (.bool z1)]) [.undef]) | _ => fun _ => none
noncomputable def code_254 : Code := (Tryz.f254.body).getD .skip
noncomputable def E_call_based (g : C_call_based) : Env A := mkE [(312, SS_call_split g.call_split)] [(2, [0])] [] [] [] [] [] [] [] []
theorem sm_call_based (g : C_call_based) : Same (SS_call_based (@call_based_ g)) (abody (E_call_based g) Tryz.f254 code_254 1 [] [.asis, .asis] g.N) := by intro args; unfold SS_call_based; split; exact .inr fun R k => (by kernel_rfl); exact .inl fun R k => rfl
theorem ok_call_based [Fuel] : Ok 254 (SS_call_based (@call_based _)) := okF_of std (.cons ok_call_split .nil) ⟨rfl, rfl, by kernel_rfl, rfl, rfl⟩ (sm_call_based I_call_based) (cuts0 (fun _ => rfl) (by kernel_rfl)) Tryz.func254 (by kernel_rfl) (by kernel_rfl)
abbrev T_stringslite_Index : Type 1 := List UInt8 → List UInt8 → {R : Type} → (Int → Option R) → Option R
def stringslite_Index [Fuel] : T_stringslite_Index := @X_ix1
def SS_stringslite_Index (g : T_stringslite_Index) : Spec A := SSX_ix1 g
theorem ok_stringslite_Index [Fuel] : Ok 345 (SS_stringslite_Index (@stringslite_Index _)) := ⟨ssx_ix1_sound (ix1_sound (Any.stringslite_Index_one Tryz.lays219)), ssx_ix1_nat, enters_of (fn := Tryz.f345) Tryz.func345 (by kernel_rfl) (by kernel_rfl)⟩
abbrev T_stringslite_Cut : Type 1 := List UInt8 → List UInt8 → {R : Type} → (List UInt8 → List UInt8 → Bool → Option R) → Option R
structure C_stringslite_Cut where
  N : Nat
  stringslite_Index : T_stringslite_Index
def stringslite_Cut_ (g : C_stringslite_Cut) (a1 a2 : List UInt8) {R : Type} (k0 : List UInt8 → List UInt8 → Bool → Option R) : Option R :=
  (g.stringslite_Index a1 a2 (fun r3 => (bif (decide (r3 ≥ 0)) then (bif (decide (0 ≤ r3) && decide (r3 ≤ (a1.length : Int))) then (bif (decide (0 ≤ (w64 (r3 + (a2.length : Int)))) && decide ((w64 (r3 + (a2.length : Int))) ≤ (a1.length : Int))) then k0 (a1.take (r3 : Int).toNat) (a1.drop ((w64 (r3 + (a2.length : Int))) : Int).toNat) true else none) else none) else k0 a1 [] false)))
noncomputable def I_stringslite_Cut [Fuel] : C_stringslite_Cut := ⟨NN, @stringslite_Index _⟩
noncomputable def stringslite_Cut [Fuel] : T_stringslite_Cut := @stringslite_Cut_ I_stringslite_Cut
def SS_stringslite_Cut (g : T_stringslite_Cut) : Spec A := fun args => match args with | [.d (.str a1), .d (.str a2)] => fun k => g a1 a2 (fun z0 z1 z2 => k (.tup [.d (.str z0), .d (.str z1), .d (.bool z2)]) [.undef, .undef]) | _ => fun _ => none
noncomputable def code_306 : Code := (Tryz.f306.body).getD .skip
noncomputable def E_stringslite_Cut (g : C_stringslite_Cut) : Env A := mkE [(345, SS_stringslite_Index g.stringslite_Index)] [] [] [] [] [] [] [] [] []
theorem sm_stringslite_Cut (g : C_stringslite_Cut) : Same (SS_stringslite_Cut (@stringslite_Cut_ g)) (abody (E_stringslite_Cut g) Tryz.f306 code_306 0 [] [.asis, .asis, .asis] g.N) := by intro args; unfold SS_stringslite_Cut; split; exact .inr fun R k => (by kernel_rfl); exact .inl fun R k => rfl
theorem ok_stringslite_Cut [Fuel] : Ok 306 (SS_stringslite_Cut (@stringslite_Cut _)) := okF_of std (.cons ok_stringslite_Index .nil) ⟨rfl, rfl, by kernel_rfl, rfl, rfl⟩ (sm_stringslite_Cut I_stringslite_Cut) (cuts0 (fun _ => rfl) (by kernel_rfl)) Tryz.func306 (by kernel_rfl) (by kernel_rfl)
abbrev T_strings_Cut : Type 1 := List UInt8 → List UInt8 → {R : Type} → (List UInt8 → List UInt8 → Bool → Option R) → Option R
structure C_strings_Cut where
  N : Nat
  stringslite_Cut : T_stringslite_Cut
def strings_Cut_ (g : C_strings_Cut) (a1 a2 : List UInt8) {R : Type} (k0 : List UInt8 → List UInt8 → Bool → Option R) : Option R :=
  (g.stringslite_Cut a1 a2 (fun r3 r4 r5 => k0 r3 r4 r5))
noncomputable def I_strings_Cut [Fuel] : C_strings_Cut := ⟨NN, @stringslite_Cut _⟩
noncomputable def strings_Cut [Fuel] : T_strings_Cut := @strings_Cut_ I_strings_Cut
def SS_strings_Cut (g : T_strings_Cut) : Spec A := fun args => match args with | [.d (.str a1), .d (.str a2)] => fun k => g a1 a2 (fun z0 z1 z2 => k (.tup [.d (.str z0), .d (.str z1), .d (.bool z2)]) [.undef, .undef]) | _ => fun _ => none
noncomputable def code_248 : Code := (Tryz.f248.body).getD .skip
noncomputable def E_strings_Cut (g : C_strings_Cut) : Env A := mkE [(306, SS_stringslite_Cut g.stringslite_Cut)] [] [] [] [] [] [] [] [] []
theorem sm_strings_Cut (g : C_strings_Cut) : Same (SS_strings_Cut (@strings_Cut_ g)) (abody (E_strings_Cut g) Tryz.f248 code_248 0 [] [.asis, .asis, .asis] g.N) := by intro args; unfold SS_strings_Cut; split; exact .inr fun R k => (by kernel_rfl); exact .inl fun R k => rfl
theorem ok_strings_Cut [Fuel] : Ok 248 (SS_strings_Cut (@strings_Cut _)) := okF_of std (.cons ok_stringslite_Cut .nil) ⟨rfl, rfl, by kernel_rfl, rfl, rfl⟩ (sm_strings_Cut I_strings_Cut) (cuts0 (fun _ => rfl) (by kernel_rfl)) Tryz.func248 (by kernel_rfl) (by kernel_rfl)
abbrev T_call_isBegin : Type 1 := List UInt8 → {R : Type} → (Bool → Option R) → Option R
structure C_call_isBegin where
  N : Nat
  call_isPlain : T_call_isPlain
def call_isBegin_ (g : C_call_isBegin) (a1 : List UInt8) {R : Type} (k0 : Bool → Option R) : Option R :=
  (g.call_isPlain a1 (fun r2 r3 => (bif r3 then (bif (decide (r2 > 0)) then k0 (decide ((a1.length : Int) ≤ 4)) else k0 false) else k0 false)))
noncomputable def I_call_isBegin [Fuel] : C_call_isBegin := ⟨NN, @call_isPlain _⟩
noncomputable def call_isBegin [Fuel] : T_call_isBegin := @call_isBegin_ I_call_isBegin
def SS_call_isBegin (g : T_call_isBegin) : Spec A := fun args => match args with | [.d (.str a1)] => fun k => g a1 (fun z0 => k (.d (.bool z0)) [.undef]) | _ => fun _ => none
noncomputable def code_255 : Code := (Tryz.f255.body).getD .skip
noncomputable def E_call_isBegin (g : C_call_isBegin) : Env A := mkE [(313, SS_call_isPlain g.call_isPlain)] [] [] [] [] [] [] [] [] []
theorem sm_call_isBegin (g : C_call_isBegin) : Same (SS_call_isBegin (@call_isBegin_ g)) (abody (E_call_isBegin g) Tryz.f255 code_255 0 [] [.asis] g.N) := by intro args; unfold SS_call_isBegin; split; exact .inr fun R k => (by kernel_rfl); exact .inl fun R k => rfl
theorem ok_call_isBegin [Fuel] : Ok 255 (SS_call_isBegin (@call_isBegin _)) := okF_of std (.cons ok_call_isPlain .nil) ⟨rfl, rfl, by kernel_rfl, rfl, rfl⟩ (sm_call_isBegin I_call_isBegin) (cuts0 (fun _ => rfl) (by kernel_rfl)) Tryz.func255 (by kernel_rfl) (by kernel_rfl)
abbrev T_call_tail : Type 1 := List UInt8 → {R : Type} → (Int → List UInt8 → Bool → Option R) → Option R
structure C_call_tail where
  N : Nat
  call_isBegin : T_call_isBegin
  call_isDigit : T_call_isDigit
def call_tail_ (g : C_call_tail) (a1 : List UInt8) {R : Type} (k0 : Int → List UInt8 → Bool → Option R) : Option R :=
  (bif (a1 == [112]) then k0 3 [] true else (bif (a1 == [109]) then k0 4 [] true else (bif (a1 == [109, 109]) then k0 5 [] true else (bif (a1 == [97, 109]) then k0 6 [] true else (bif ((a1.length : Int) == 1) then (at_ a1 0 fun x2 => (g.call_isDigit (x2.toNat : Int) (fun r3 => (bif r3 then k0 2 a1 true else (g.call_isBegin a1 (fun r4 => k0 1 a1 r4)))))) else (g.call_isBegin a1 (fun r5 => k0 1 a1 r5)))))))
noncomputable def I_call_tail [Fuel] : C_call_tail := ⟨NN, @call_isBegin _, @call_isDigit _⟩
noncomputable def call_tail [Fuel] : T_call_tail := @call_tail_ I_call_tail
def SS_call_tail (g : T_call_tail) : Spec A := fun args => match args with | [.d (.str a1)] => fun k => g a1 (fun z0 z1 z2 => k (.tup [.d (.int .i64 z0), .d (.str z1), .d (.bool z2)]) [.undef]) | _ => fun _ => none
noncomputable def code_256 : Code := (Tryz.f256.body).getD .skip
noncomputable def E_call_tail (g : C_call_tail) : Env A := mkE [(255, SS_call_isBegin g.call_isBegin), (314, SS_call_isDigit g.call_isDigit)] [] [] [] [] [] [] [] [] []
theorem sm_call_tail (g : C_call_tail) : Same (SS_call_tail (@call_tail_ g)) (abody (E_call_tail g) Tryz.f256 code_256 0 [] [.asis, .asis, .asis] g.N) := by intro args; unfold SS_call_tail; split; exact .inr fun R k => (by kernel_rfl); exact .inl fun R k => rfl
theorem ok_call_tail [Fuel] : Ok 256 (SS_call_tail (@call_tail _)) := okF_of std (.cons ok_call_isBegin (.cons ok_call_isDigit .nil)) ⟨rfl, rfl, by kernel_rfl, rfl, rfl⟩ (sm_call_tail I_call_tail) (cuts0 (fun _ => rfl) (by kernel_rfl)) Tryz.func256 (by kernel_rfl) (by kernel_rfl)
abbrev T_call_Parts : Type 1 := List UInt8 → {R : Type} → (G_Parts → Bool → Option R) → Option R
structure C_call_Parts where
  N : Nat
  strings_Cut : T_strings_Cut
  call_based : T_call_based
  call_isBegin : T_call_isBegin
  call_tail : T_call_tail
def call_Parts_ (g : C_call_Parts) (a1 : List UInt8) {R : Type} (k0 : G_Parts → Bool → Option R) : Option R :=
  (bif (decide ((a1.length : Int) > 14)) then k0 (⟨[], [], [], 0, []⟩ : G_Parts) false else (g.call_based a1 (fun r2 r3 => (bif r3 then k0 r2 true else (g.strings_Cut a1 [47] (fun r4 r5 r6 => (bif (!r6) then k0 (⟨[], [], [], 0, []⟩ : G_Parts) false else (g.call_based r5 (fun r7 r8 => (bif r8 then (g.call_isBegin r4 (fun r9 => (bif r9 then k0 (⟨r7.f_Base, r7.f_Prefix, r7.f_Suffix, 1, r4⟩ : G_Parts) true else (g.call_based r4 (fun r10 r11 => (g.call_tail r5 (fun r12 r13 r14 => (bif (!r11) then k0 (⟨[], [], [], 0, []⟩ : G_Parts) false else (bif (!r14) then k0 (⟨[], [], [], 0, []⟩ : G_Parts) false else k0 (⟨r10.f_Base, r10.f_Prefix, r10.f_Suffix, r12, r13⟩ : G_Parts) true))))))))) else (g.call_based r4 (fun r15 r16 => (g.call_tail r5 (fun r17 r18 r19 => (bif (!r16) then k0 (⟨[], [], [], 0, []⟩ : G_Parts) false else (bif (!r19) then k0 (⟨[], [], [], 0, []⟩ : G_Parts) false else k0 (⟨r15.f_Base, r15.f_Prefix, r15.f_Suffix, r17, r18⟩ : G_Parts) true))))))))))))))))
noncomputable def I_call_Parts [Fuel] : C_call_Parts := ⟨NN, @strings_Cut _, @call_based _, @call_isBegin _, @call_tail _⟩
noncomputable def call_Parts [Fuel] : T_call_Parts := @call_Parts_ I_call_Parts
def SS_call_Parts (g : T_call_Parts) : Spec A := fun args => match args with | [.d (.str a1)] => fun k => g a1 (fun z0 z1 => k (.tup [.agg [.d (.str z0.f_Base), .d (.str z0.f_Prefix), .d (.str z0.f_Suffix), .d (.int .i64 z0.f_Kind), .d (.str z0.f_Added)], .d (.bool z1)]) [.undef]) | _ => fun _ => none
noncomputable def code_184 : Code := (Tryz.f184.body).getD .skip
noncomputable def E_call_Parts (g : C_call_Parts) : Env A := mkE [(248, SS_strings_Cut g.strings_Cut), (254, SS_call_based g.call_based), (255, SS_call_isBegin g.call_isBegin), (256, SS_call_tail g.call_tail)] [(2, [0]), (4, [1]), (9, [2]), (11, [3])] [] [] [] [] [] [] [] []
theorem sm_call_Parts (g : C_call_Parts) : Same (SS_call_Parts (@call_Parts_ g)) (abody (E_call_Parts g) Tryz.f184 code_184 4 [] [.asis, .asis] g.N) := by intro args; unfold SS_call_Parts; split; exact .inr fun R k => (by kernel_rfl); exact .inl fun R k => rfl
theorem ok_call_Parts [Fuel] : Ok 184 (SS_call_Parts (@call_Parts _)) := okF_of std (.cons ok_strings_Cut (.cons ok_call_based (.cons ok_call_isBegin (.cons ok_call_tail .nil)))) ⟨rfl, rfl, by kernel_rfl, rfl, rfl⟩ (sm_call_Parts I_call_Parts) (cuts0 (fun _ => rfl) (by kernel_rfl)) Tryz.func184 (by kernel_rfl) (by kernel_rfl)
abbrev T_call_Is : Type 1 := List UInt8 → {R : Type} → (Bool → Option R) → Option R
structure C_call_Is where
  N : Nat
  call_Parts : T_call_Parts
def call_Is_ (g : C_call_Is) (a1 : List UInt8) {R : Type} (k0 : Bool → Option R) : Option R :=
  (g.call_Parts a1 (fun r2 r3 => k0 r3))
noncomputable def I_call_Is [Fuel] : C_call_Is := ⟨NN, @call_Parts _⟩
noncomputable def call_Is [Fuel] : T_call_Is := @call_Is_ I_call_Is
def SS_call_Is (g : T_call_Is) : Spec A := fun args => match args with | [.d (.str a1)] => fun k => g a1 (fun z0 => k (.d (.bool z0)) [.undef]) | _ => fun _ => none
noncomputable def code_129 : Code := (Tryz.f129.body).getD .skip
noncomputable def E_call_Is (g : C_call_Is) : Env A := mkE [(184, SS_call_Parts g.call_Parts)] [(3, [0])] [] [] [] [] [] [] [] []
theorem sm_call_Is (g : C_call_Is) : Same (SS_call_Is (@call_Is_ g)) (abody (E_call_Is g) Tryz.f129 code_129 1 [] [.asis] g.N) := by intro args; unfold SS_call_Is; split; exact .inr fun R k => (by kernel_rfl); exact .inl fun R k => rfl
theorem ok_call_Is [Fuel] : Ok 129 (SS_call_Is (@call_Is _)) := okF_of std (.cons ok_call_Parts .nil) ⟨rfl, rfl, by kernel_rfl, rfl, rfl⟩ (sm_call_Is I_call_Is) (cuts0 (fun _ => rfl) (by kernel_rfl)) Tryz.func129 (by kernel_rfl) (by kernel_rfl)
abbrev T_strings_IndexByte : Type 1 := List UInt8 → Int → {R : Type} → (Int → Option R) → Option R
def strings_IndexByte [Fuel] : T_strings_IndexByte := @X_ixb
def SS_strings_IndexByte (g : T_strings_IndexByte) : Spec A := SSX_ixb g
theorem ok_strings_IndexByte [Fuel] : Ok 185 (SS_strings_IndexByte (@strings_IndexByte _)) := ⟨ssx_ixb_sound (ixb_sound (Any.strings_IndexByte Tryz.lays137)), ssx_ixb_nat, enters_of (fn := Tryz.f185) Tryz.func185 (by kernel_rfl) (by kernel_rfl)⟩
abbrev T_strings_Trim : Type 1 := List UInt8 → List UInt8 → {R : Type} → (List UInt8 → Option R) → Option R
def strings_Trim [Fuel] : T_strings_Trim := @X_trim
def SS_strings_Trim (g : T_strings_Trim) : Spec A := SSX_trim g
theorem ok_strings_Trim [Fuel] : Ok 186 (SS_strings_Trim (@strings_Trim _)) := ⟨ssx_trim_sound (trim_sound rfl (fun s cs w h1 h2 h3 => Any.strings_Trim_laid Tryz.lays160 (by kernel_rfl) s cs w h1 h2 h3)), ssx_trim_nat, enters_of (fn := Tryz.f186) Tryz.func186 (by kernel_rfl) (by kernel_rfl)⟩
abbrev T_kit_IsKey : Type 1 := List UInt8 → {R : Type} → (Bool → Option R) → Option R
structure C_kit_IsKey where
  N : Nat
  strings_IndexByte : T_strings_IndexByte
  strings_Trim : T_strings_Trim
def kit_IsKey_ (g : C_kit_IsKey) (a1 : List UInt8) {R : Type} (k0 : Bool → Option R) : Option R :=
  (bif (!(a1 == [])) then (bif (decide ((a1.length : Int) ≤ 40)) then (at_ a1 0 fun x2 => (g.strings_IndexByte [97, 98, 99, 100, 101, 102, 103, 104, 105, 106, 107, 108, 109, 110, 111, 112, 113, 114, 115, 116, 117, 118, 119, 120, 121, 122] (x2.toNat : Int) (fun r3 => (bif (decide (r3 ≥ 0)) then (g.strings_Trim a1 [97, 98, 99, 100, 101, 102, 103, 104, 105, 106, 107, 108, 109, 110, 111, 112, 113, 114, 115, 116, 117, 118, 119, 120, 121, 122, 48, 49, 50, 51, 52, 53, 54, 55, 56, 57, 45, 95] (fun r4 => k0 (r4 == []))) else k0 false)))) else k0 false) else k0 false)
noncomputable def I_kit_IsKey [Fuel] : C_kit_IsKey := ⟨NN, @strings_IndexByte _, @strings_Trim _⟩
noncomputable def kit_IsKey [Fuel] : T_kit_IsKey := @kit_IsKey_ I_kit_IsKey
def SS_kit_IsKey (g : T_kit_IsKey) : Spec A := fun args => match args with | [.d (.str a1)] => fun k => g a1 (fun z0 => k (.d (.bool z0)) [.undef]) | _ => fun _ => none
noncomputable def code_130 : Code := (Tryz.f130.body).getD .skip
noncomputable def E_kit_IsKey (g : C_kit_IsKey) : Env A := mkE [(185, SS_strings_IndexByte g.strings_IndexByte), (186, SS_strings_Trim g.strings_Trim)] [] [] [] [] [] [] [] [] []
theorem sm_kit_IsKey (g : C_kit_IsKey) : Same (SS_kit_IsKey (@kit_IsKey_ g)) (abody (E_kit_IsKey g) Tryz.f130 code_130 0 [] [.asis] g.N) := by intro args; unfold SS_kit_IsKey; split; exact .inr fun R k => (by kernel_rfl); exact .inl fun R k => rfl
theorem ok_kit_IsKey [Fuel] : Ok 130 (SS_kit_IsKey (@kit_IsKey _)) := okF_of std (.cons ok_strings_IndexByte (.cons ok_strings_Trim .nil)) ⟨rfl, rfl, by kernel_rfl, rfl, rfl⟩ (sm_kit_IsKey I_kit_IsKey) (cuts0 (fun _ => rfl) (by kernel_rfl)) Tryz.func130 (by kernel_rfl) (by kernel_rfl)
abbrev T_cmp_isNaN__int : Type 1 := Int → {R : Type} → (Bool → Option R) → Option R
def cmp_isNaN__int_ (g : Nat) (a1 : Int) {R : Type} (k0 : Bool → Option R) : Option R :=
  k0 (a1 != a1)
noncomputable def cmp_isNaN__int [Fuel] : T_cmp_isNaN__int := @cmp_isNaN__int_ NN
def SS_cmp_isNaN__int (g : T_cmp_isNaN__int) : Spec A := fun args => match args with | [.d (.int .i64 a1)] => fun k => g a1 (fun z0 => k (.d (.bool z0)) [.undef]) | _ => fun _ => none
noncomputable def code_222 : Code := (Tryz.f222.body).getD .skip
noncomputable def E_cmp_isNaN__int (g : Nat) : Env A := mkE [] [] [] [] [] [] [] [] [] []
theorem sm_cmp_isNaN__int (g : Nat) : Same (SS_cmp_isNaN__int (@cmp_isNaN__int_ g)) (abody (E_cmp_isNaN__int g) Tryz.f222 code_222 0 [] [.asis] g) := by intro args; unfold SS_cmp_isNaN__int; split; exact .inr fun R k => (by kernel_rfl); exact .inl fun R k => rfl
theorem ok_cmp_isNaN__int [Fuel] : Ok 222 (SS_cmp_isNaN__int (@cmp_isNaN__int _)) := okF_of std .nil ⟨rfl, rfl, by kernel_rfl, rfl, rfl⟩ (sm_cmp_isNaN__int NN) (cuts0 (fun _ => rfl) (by kernel_rfl)) Tryz.func222 (by kernel_rfl) (by kernel_rfl)
noncomputable def Ed_cmp_isNaN__int (g : Nat) : Env A := mkED [] [] [] [] [] [] [] [] [] []
theorem smd_cmp_isNaN__int (g : Nat) : Same (SS_cmp_isNaN__int (@cmp_isNaN__int_ g)) (abody (Ed_cmp_isNaN__int g) Tryz.f222 code_222 0 [] [.asis] g) := by intro args; unfold SS_cmp_isNaN__int; split; exact .inr fun R k => (by kernel_rfl); exact .inl fun R k => rfl
theorem okd_cmp_isNaN__int [Fuel] : OkD 222 (SS_cmp_isNaN__int (@cmp_isNaN__int _)) := okF_of stdD .nil ⟨rfl, rfl, by kernel_rfl, rfl, rfl⟩ (smd_cmp_isNaN__int NN) (cuts0 (fun _ => rfl) (by kernel_rfl)) Tryz.func222 (by kernel_rfl) (by kernel_rfl)
abbrev T_cmp_Compare__int : Type 1 := Int → Int → {R : Type} → (Int → Option R) → Option R
structure C_cmp_Compare__int where
  N : Nat
  cmp_isNaN__int : T_cmp_isNaN__int
def cmp_Compare__int_ (g : C_cmp_Compare__int) (a1 a2 : Int) {R : Type} (k0 : Int → Option R) : Option R :=
  (g.cmp_isNaN__int a1 (fun r3 => (g.cmp_isNaN__int a2 (fun r4 => (bif r3 then (bif r4 then k0 0 else k0 (-1)) else (bif r4 then k0 1 else (bif (decide (a1 < a2)) then k0 (-1) else (bif (decide (a1 > a2)) then k0 1 else k0 0))))))))
noncomputable def I_cmp_Compare__int [Fuel] : C_cmp_Compare__int := ⟨NN, @cmp_isNaN__int _⟩
noncomputable def cmp_Compare__int [Fuel] : T_cmp_Compare__int := @cmp_Compare__int_ I_cmp_Compare__int
def SS_cmp_Compare__int (g : T_cmp_Compare__int) : Spec A := fun args => match args with | [.d (.int .i64 a1), .d (.int .i64 a2)] => fun k => g a1 a2 (fun z0 => k (.d (.int .i64 z0)) [.undef, .undef]) | _ => fun _ => none
noncomputable def code_170 : Code := (Tryz.f170.body).getD .skip
noncomputable def E_cmp_Compare__int (g : C_cmp_Compare__int) : Env A := mkE [(222, SS_cmp_isNaN__int g.cmp_isNaN__int)] [] [] [] [] [] [] [] [] []
theorem sm_cmp_Compare__int (g : C_cmp_Compare__int) : Same (SS_cmp_Compare__int (@cmp_Compare__int_ g)) (abody (E_cmp_Compare__int g) Tryz.f170 code_170 0 [] [.asis] g.N) := by intro args; unfold SS_cmp_Compare__int; split; exact .inr fun R k => (by kernel_rfl); exact .inl fun R k => rfl
theorem ok_cmp_Compare__int [Fuel] : Ok 170 (SS_cmp_Compare__int (@cmp_Compare__int _)) := okF_of std (.cons ok_cmp_isNaN__int .nil) ⟨rfl, rfl, by kernel_rfl, rfl, rfl⟩ (sm_cmp_Compare__int I_cmp_Compare__int) (cuts0 (fun _ => rfl) (by kernel_rfl)) Tryz.func170 (by kernel_rfl) (by kernel_rfl)
noncomputable def Ed_cmp_Compare__int (g : C_cmp_Compare__int) : Env A := mkED [(222, SS_cmp_isNaN__int g.cmp_isNaN__int)] [] [] [] [] [] [] [] [] []
theorem smd_cmp_Compare__int (g : C_cmp_Compare__int) : Same (SS_cmp_Compare__int (@cmp_Compare__int_ g)) (abody (Ed_cmp_Compare__int g) Tryz.f170 code_170 0 [] [.asis] g.N) := by intro args; unfold SS_cmp_Compare__int; split; exact .inr fun R k => (by kernel_rfl); exact .inl fun R k => rfl
theorem okd_cmp_Compare__int [Fuel] : OkD 170 (SS_cmp_Compare__int (@cmp_Compare__int _)) := okF_of stdD (.cons okd_cmp_isNaN__int .nil) ⟨rfl, rfl, by kernel_rfl, rfl, rfl⟩ (smd_cmp_Compare__int I_cmp_Compare__int) (cuts0 (fun _ => rfl) (by kernel_rfl)) Tryz.func170 (by kernel_rfl) (by kernel_rfl)
abbrev T_cmp_Or__int : Type 1 := List Int → {R : Type} → (Int → Option R) → Option R
def cmp_Or__int_L3 (g : Nat) : Nat → Int → List Int → Int → Int → {R : Type} → (Int → Int → Option R) → (Int → Option R) → Option R
  | 0, _, _, _, _, _, _, _ => none
  | n + 1, v2, v3, v4, v5, _, e0, e1 => (bif (decide (v5 < v4)) then (get_ v3 v5 fun x7 => (bif (x7 != v2) then e0 x7 v2 else cmp_Or__int_L3 g n v2 v3 v4 (w64 (v5 + 1)) e0 e1)) else e1 v2)
def cmp_Or__int_ (g : Nat) (a1 : List Int) {R : Type} (k0 : Int → Option R) : Option R :=
  (cmp_Or__int_L3 g g 0 a1 (a1.length : Int) 0 (fun e8 e9 => k0 e8) (fun e10 => k0 e10))
noncomputable def cmp_Or__int [Fuel] : T_cmp_Or__int := @cmp_Or__int_ NN
def SS_cmp_Or__int (g : T_cmp_Or__int) : Spec A := fun args => match args with | [.d (.sl 3 a1)] => fun k => g a1 (fun z0 => k (.d (.int .i64 z0)) [.undef]) | _ => fun _ => none
def sh_cmp_Or__int_L3 : SSt := mkSh 18 0 [(3, .int .i64), (6, .sl 3), (7, .int .i64), (8, .int .i64)] []
def LP_cmp_Or__int_L3 (g : Nat) (n : Nat) : LPT A := fun ps => match ps with | [.d (.int .i64 p1), .d (.sl 3 p2), .d (.int .i64 p3), .d (.int .i64 p4)] => fun K => cmp_Or__int_L3 g n p1 p2 p3 p4 (fun z0 z1 => K .ret (mkSt 18 0 [(2, .d (.int .i64 z0)), (3, .d (.int .i64 z1))] [])) (fun z0 => K (.exit 0) (mkSt 18 0 [(3, .d (.int .i64 z0))] [])) | _ => fun _ => none
noncomputable def code_113 : Code := (Tryz.f113.body).getD .skip
noncomputable def E_cmp_Or__int (g : Nat) : Env A := mkE [] [] [(3, ⟨[3, 6, 7, 8], [], [], []⟩)] [(3, ⟨[2, 3], [], [], []⟩)] [(3, pieceOf sh_cmp_Or__int_L3 (LP_cmp_Or__int_L3 g g))] [] [] [] [] []
theorem ct_cmp_Or__int [Fuel] : NatTab (E_cmp_Or__int NN).C := ct_of (P := Tryz.prog) (T := T) .nil (by kernel_rfl)
noncomputable def cb_cmp_Or__int_L3 : Code := sub [1, 1, 0, 1, 0, 0] code_113
theorem s_cmp_Or__int_L3 (g : Nat) (n : Nat) : StepOk (E_cmp_Or__int g) g cb_cmp_Or__int_L3 sh_cmp_Or__int_L3 (LP_cmp_Or__int_L3 g) n := by intro ps; unfold LP_cmp_Or__int_L3; split; exact .inr fun R K => (by kernel_rfl); exact .inl fun R K => rfl
theorem lf_cmp_Or__int_L3 [Fuel] : LoopFine (E_cmp_Or__int NN) NN cb_cmp_Or__int_L3 := fine_loop sh_cmp_Or__int_L3 (LP_cmp_Or__int_L3 NN) (by kernel_rfl) ct_cmp_Or__int (cuts0 (fun _ => rfl) (by kernel_rfl)) (fun ps R K => by unfold LP_cmp_Or__int_L3; split <;> (try unfold cmp_Or__int_L3) <;> rfl) (s_cmp_Or__int_L3 NN)
theorem sm_cmp_Or__int (g : Nat) : Same (SS_cmp_Or__int (@cmp_Or__int_ g)) (abody (E_cmp_Or__int g) Tryz.f113 code_113 0 [] [.asis] g) := by intro args; unfold SS_cmp_Or__int; split; exact .inr fun R k => (by kernel_rfl); exact .inl fun R k => rfl
theorem ok_cmp_Or__int [Fuel] : Ok 113 (SS_cmp_Or__int (@cmp_Or__int _)) := okF_of std .nil ⟨rfl, rfl, by kernel_rfl, rfl, rfl⟩ (sm_cmp_Or__int NN) (cutsL (fun _ => rfl) (.cons lf_cmp_Or__int_L3 .nil) (by kernel_rfl)) Tryz.func113 (by kernel_rfl) (by kernel_rfl)
noncomputable def Ed_cmp_Or__int (g : Nat) : Env A := mkED [] [] [(3, ⟨[3, 6, 7, 8], [], [], []⟩)] [(3, ⟨[2, 3], [], [], []⟩)] [(3, pieceOf sh_cmp_Or__int_L3 (LP_cmp_Or__int_L3 g g))] [] [] [] [] []
theorem ctd_cmp_Or__int [Fuel] : NatTab (Ed_cmp_Or__int NN).C := ct_of (P := Tryz.prog) (T := TD) .nil (by kernel_rfl)
theorem sd_cmp_Or__int_L3 (g : Nat) (n : Nat) : StepOk (Ed_cmp_Or__int g) g cb_cmp_Or__int_L3 sh_cmp_Or__int_L3 (LP_cmp_Or__int_L3 g) n := by intro ps; unfold LP_cmp_Or__int_L3; split; exact .inr fun R K => (by kernel_rfl); exact .inl fun R K => rfl
theorem lfd_cmp_Or__int_L3 [Fuel] : LoopFine (Ed_cmp_Or__int NN) NN cb_cmp_Or__int_L3 := fine_loop sh_cmp_Or__int_L3 (LP_cmp_Or__int_L3 NN) (by kernel_rfl) ctd_cmp_Or__int (cuts0 (fun _ => rfl) (by kernel_rfl)) (fun ps R K => by unfold LP_cmp_Or__int_L3; split <;> (try unfold cmp_Or__int_L3) <;> rfl) (sd_cmp_Or__int_L3 NN)
theorem smd_cmp_Or__int (g : Nat) : Same (SS_cmp_Or__int (@cmp_Or__int_ g)) (abody (Ed_cmp_Or__int g) Tryz.f113 code_113 0 [] [.asis] g) := by intro args; unfold SS_cmp_Or__int; split; exact .inr fun R k => (by kernel_rfl); exact .inl fun R k => rfl
theorem okd_cmp_Or__int [Fuel] : OkD 113 (SS_cmp_Or__int (@cmp_Or__int _)) := okF_of stdD .nil ⟨rfl, rfl, by kernel_rfl, rfl, rfl⟩ (smd_cmp_Or__int NN) (cutsL (fun _ => rfl) (.cons lfd_cmp_Or__int_L3 .nil) (by kernel_rfl)) Tryz.func113 (by kernel_rfl) (by kernel_rfl)
abbrev T_club_compareCards : Type 1 := G_Card → G_Card → {R : Type} → (Int → Option R) → Option R
structure C_club_compareCards where
  N : Nat
  cmp_Or__int : T_cmp_Or__int
  strings_Compare : T_strings_Compare
  cmp_Compare__int : T_cmp_Compare__int
def club_compareCards_ (g : C_club_compareCards) (a1 a2 : G_Card) {R : Type} (k0 : Int → Option R) : Option R :=
  (g.cmp_Compare__int a1.f_At a2.f_At (fun r3 => (g.strings_Compare a1.f_Call a2.f_Call (fun r4 => (g.strings_Compare a1.f_Band a2.f_Band (fun r5 => (g.cmp_Compare__int a1.f_Mode a2.f_Mode (fun r6 => (g.cmp_Compare__int a1.f_Kind a2.f_Kind (fun r7 => (g.cmp_Or__int [r3, r4, r5, r6, r7] (fun r8 => k0 r8))))))))))))
noncomputable def I_club_compareCards [Fuel] : C_club_compareCards := ⟨NN, @cmp_Or__int _, @strings_Compare _, @cmp_Compare__int _⟩
noncomputable def club_compareCards [Fuel] : T_club_compareCards := @club_compareCards_ I_club_compareCards
def SS_club_compareCards (g : T_club_compareCards) : Spec A := fun args => match args with | [.agg [.d (.int .i64 a1), .d (.int .i64 a2), .d (.int .i64 a3), .d (.str a4), .d (.str a5)], .agg [.d (.int .i64 a6), .d (.int .i64 a7), .d (.int .i64 a8), .d (.str a9), .d (.str a10)]] => fun k => g ⟨a1, a2, a3, a4, a5⟩ ⟨a6, a7, a8, a9, a10⟩ (fun z0 => k (.d (.int .i64 z0)) [.undef, .undef]) | _ => fun _ => none
noncomputable def code_106 : Code := (Tryz.f106.body).getD .skip
noncomputable def E_club_compareCards (g : C_club_compareCards) : Env A := mkE [(113, SS_cmp_Or__int g.cmp_Or__int), (114, SS_strings_Compare g.strings_Compare), (170, SS_cmp_Compare__int g.cmp_Compare__int)] [(2, [0]), (3, [1]), (30, [2])] [] [] [] [] [] [] [] []
theorem sm_club_compareCards (g : C_club_compareCards) : Same (SS_club_compareCards (@club_compareCards_ g)) (abody (E_club_compareCards g) Tryz.f106 code_106 3 [] [.asis] g.N) := by intro args; unfold SS_club_compareCards; split; exact .inr fun R k => (by kernel_rfl); exact .inl fun R k => rfl
theorem ok_club_compareCards [Fuel] : Ok 106 (SS_club_compareCards (@club_compareCards _)) := okF_of std (.cons ok_cmp_Or__int (.cons ok_strings_Compare (.cons ok_cmp_Compare__int .nil))) ⟨rfl, rfl, by kernel_rfl, rfl, rfl⟩ (sm_club_compareCards I_club_compareCards) (cuts0 (fun _ => rfl) (by kernel_rfl)) Tryz.func106 (by kernel_rfl) (by kernel_rfl)
noncomputable def Ed_club_compareCards (g : C_club_compareCards) : Env A := mkED [(113, SS_cmp_Or__int g.cmp_Or__int), (114, SS_strings_Compare g.strings_Compare), (170, SS_cmp_Compare__int g.cmp_Compare__int)] [(2, [0]), (3, [1]), (30, [2])] [] [] [] [] [] [] [] []
theorem smd_club_compareCards (g : C_club_compareCards) : Same (SS_club_compareCards (@club_compareCards_ g)) (abody (Ed_club_compareCards g) Tryz.f106 code_106 3 [] [.asis] g.N) := by intro args; unfold SS_club_compareCards; split; exact .inr fun R k => (by kernel_rfl); exact .inl fun R k => rfl
theorem okd_club_compareCards [Fuel] : OkD 106 (SS_club_compareCards (@club_compareCards _)) := okF_of stdD (.cons okd_cmp_Or__int (.cons okd_strings_Compare (.cons okd_cmp_Compare__int .nil))) ⟨rfl, rfl, by kernel_rfl, rfl, rfl⟩ (smd_club_compareCards I_club_compareCards) (cuts0 (fun _ => rfl) (by kernel_rfl)) Tryz.func106 (by kernel_rfl) (by kernel_rfl)
abbrev T_club_CheckCards : Type 1 := List G_Card → {R : Type} → (Int → Option R) → Option R
structure C_club_CheckCards where
  N : Nat
  club_compareCards : T_club_compareCards
  kit_IsMoment : T_kit_IsMoment
  kit_Outside : T_kit_Outside
  kit_IsMode : T_kit_IsMode
  call_Is : T_call_Is
  kit_IsKey : T_kit_IsKey
def club_CheckCards_L4 (g : C_club_CheckCards) : Nat → List G_Card → List G_Card → Int → Int → {R : Type} → (Int → Option R) → Option R → Option R
  | 0, _, _, _, _, _, _, _ => none
  | n + 1, v2, v3, v4, v5, _, e0, e1 => (bif (decide (v5 < v4)) then (get_ v3 v5 fun x14 => (g.kit_IsMoment x14.f_At (fun r15 => (bif (!r15) then e0 1 else (g.kit_Outside x14.f_Kind 1 3 (fun r16 => (bif r16 then e0 4 else (g.kit_IsMode x14.f_Mode (fun r17 => (bif (!r17) then e0 4 else (g.call_Is x14.f_Call (fun r18 => (bif (!r18) then e0 3 else (g.kit_IsKey x14.f_Band (fun r19 => (bif (!r19) then e0 5 else (bif (decide (v5 > 0)) then (get_ v2 (w64 (v5 - 1)) fun x20 => (g.club_compareCards x20 x14 (fun r21 => (bif (decide (r21 ≥ 0)) then e0 7 else club_CheckCards_L4 g n v2 v3 v4 (w64 (v5 + 1)) e0 e1)))) else club_CheckCards_L4 g n v2 v3 v4 (w64 (v5 + 1)) e0 e1))))))))))))))))) else e1)
def club_CheckCards_ (g : C_club_CheckCards) (a1 : List G_Card) {R : Type} (k0 : Int → Option R) : Option R :=
  (bif (decide ((a1.length : Int) > 3000)) then k0 2 else (club_CheckCards_L4 g g.N a1 a1 (a1.length : Int) 0 (fun e22 => k0 e22) (k0 0)))
noncomputable def I_club_CheckCards [Fuel] : C_club_CheckCards := ⟨NN, @club_compareCards _, @kit_IsMoment _, @kit_Outside _, @kit_IsMode _, @call_Is _, @kit_IsKey _⟩
noncomputable def club_CheckCards [Fuel] : T_club_CheckCards := @club_CheckCards_ I_club_CheckCards
def SS_club_CheckCards (g : T_club_CheckCards) : Spec A := fun args => match args with | [.d (.sl 66 a1)] => fun k => g a1 (fun z0 => k (.d (.int .i64 z0)) [.undef]) | _ => fun _ => none
def sh_club_CheckCards_L4 : SSt := mkSh 54 1 [(0, .sl 66), (8, .sl 66), (9, .int .i64), (10, .int .i64)] []
def LP_club_CheckCards_L4 (g : C_club_CheckCards) (n : Nat) : LPT A := fun ps => match ps with | [.d (.sl 66 p1), .d (.sl 66 p2), .d (.int .i64 p3), .d (.int .i64 p4)] => fun K => club_CheckCards_L4 g n p1 p2 p3 p4 (fun z0 => K .ret (mkSt 54 1 [(2, .d (.int .i64 z0))] [])) (K (.exit 0) (mkSt 54 1 [] [])) | _ => fun _ => none
noncomputable def code_35 : Code := (Tryz.f35.body).getD .skip
noncomputable def E_club_CheckCards (g : C_club_CheckCards) : Env A := mkE [(106, SS_club_compareCards g.club_compareCards), (126, SS_kit_IsMoment g.kit_IsMoment), (127, SS_kit_Outside g.kit_Outside), (128, SS_kit_IsMode g.kit_IsMode), (129, SS_call_Is g.call_Is), (130, SS_kit_IsKey g.kit_IsKey)] [(4, [0])] [(4, ⟨[0, 8, 9, 10], [], [], []⟩)] [(4, ⟨[2], [], [], []⟩)] [(4, pieceOf sh_club_CheckCards_L4 (LP_club_CheckCards_L4 g g.N))] [] [] [] [] []
theorem ct_club_CheckCards [Fuel] : NatTab (E_club_CheckCards I_club_CheckCards).C := ct_of (P := Tryz.prog) (T := T) (.cons ok_club_compareCards (.cons ok_kit_IsMoment (.cons ok_kit_Outside (.cons ok_kit_IsMode (.cons ok_call_Is (.cons ok_kit_IsKey .nil)))))) (by kernel_rfl)
noncomputable def cb_club_CheckCards_L4 : Code := sub [1, 1, 0, 1, 0, 0] code_35
theorem s_club_CheckCards_L4 (g : C_club_CheckCards) (n : Nat) : StepOk (E_club_CheckCards g) g.N cb_club_CheckCards_L4 sh_club_CheckCards_L4 (LP_club_CheckCards_L4 g) n := by intro ps; unfold LP_club_CheckCards_L4; split; exact .inr fun R K => (by kernel_rfl); exact .inl fun R K => rfl
theorem lf_club_CheckCards_L4 [Fuel] : LoopFine (E_club_CheckCards I_club_CheckCards) NN cb_club_CheckCards_L4 := fine_loop sh_club_CheckCards_L4 (LP_club_CheckCards_L4 I_club_CheckCards) (by kernel_rfl) ct_club_CheckCards (cuts0 (fun _ => rfl) (by kernel_rfl)) (fun ps R K => by unfold LP_club_CheckCards_L4; split <;> (try unfold club_CheckCards_L4) <;> rfl) (s_club_CheckCards_L4 I_club_CheckCards)
theorem sm_club_CheckCards (g : C_club_CheckCards) : Same (SS_club_CheckCards (@club_CheckCards_ g)) (abody (E_club_CheckCards g) Tryz.f35 code_35 1 [] [.asis] g.N) := by intro args; unfold SS_club_CheckCards; split; exact .inr fun R k => (by kernel_rfl); exact .inl fun R k => rfl
theorem ok_club_CheckCards [Fuel] : Ok 35 (SS_club_CheckCards (@club_CheckCards _)) := okF_of std (.cons ok_club_compareCards (.cons ok_kit_IsMoment (.cons ok_kit_Outside (.cons ok_kit_IsMode (.cons ok_call_Is (.cons ok_kit_IsKey .nil)))))) ⟨rfl, rfl, by kernel_rfl, rfl, rfl⟩ (sm_club_CheckCards I_club_CheckCards) (cutsL (fun _ => rfl) (.cons lf_club_CheckCards_L4 .nil) (by kernel_rfl)) Tryz.func35 (by kernel_rfl) (by kernel_rfl)
abbrev T_slices_Grow__Card_n0 : Type 1 := Int → {R : Type} → (List G_Card → Option R) → Option R
def slices_Grow__Card_n0 [Fuel] : T_slices_Grow__Card_n0 := @X_grow G_Card 56
def SS_slices_Grow__Card_n0 (g : T_slices_Grow__Card_n0) : Spec A := fun args => match args with | [.d .nsl, .d (.int .i64 x1)] => fun k => g x1 (fun z => k (.arr 66 z) [.undef, .undef]) | _ => fun _ => none
theorem h1_slices_Grow__Card_n0 [Fuel] (xs : Int) (R : Type) (k : IV A → List (IV A) → Option R) : SS_slices_Grow__Card_n0 (@slices_Grow__Card_n0 _) [.d .nsl, .d (.int .i64 xs)] k = X_grow (α := A 66) 56 xs (fun z => k (.arr 66 z) [.undef, .undef]) := by kernel_rfl
theorem h2_slices_Grow__Card_n0 [Fuel] (args : List (IV A)) (R : Type) (k : IV A → List (IV A) → Option R) (h : ∀ xs : Int, args ≠ [.d .nsl, .d (.int .i64 xs)]) : SS_slices_Grow__Card_n0 (@slices_Grow__Card_n0 _) args k = none := by unfold SS_slices_Grow__Card_n0; split; exact absurd rfl (h _); rfl
theorem ok_slices_Grow__Card_n0 [Fuel] : Ok 175 (SS_slices_Grow__Card_n0 (@slices_Grow__Card_n0 _)) := ⟨grow_fs (grow_sound rfl (tyOk Tryz.prog) (e := 66) (size := 5) (bytes := 56) (ty := 66) (by kernel_rfl) (fun w => grow_0 Tryz.grow175 w) (fun n w hn hb hm => grow_h Tryz.grow175 Tryz.ti66 Tryz.zv66 (by kernel_rfl) (by kernel_rfl) 5 56 (by kernel_rfl) (by kernel_rfl) (by decide) (by kernel_rfl) n w hn hb hm)) h1_slices_Grow__Card_n0 h2_slices_Grow__Card_n0, grow_na h1_slices_Grow__Card_n0 h2_slices_Grow__Card_n0, enters_of (fn := Tryz.f175) Tryz.func175 (by kernel_rfl) (by kernel_rfl)⟩
abbrev T_slices_Concat__Card : Type 1 := List (List G_Card) → {R : Type} → (List G_Card → Option R) → Option R
structure C_slices_Concat__Card where
  N : Nat
  slices_Grow__Card_n0 : T_slices_Grow__Card_n0
def slices_Concat__Card_L3 (g : C_slices_Concat__Card) : Nat → List (List G_Card) → Int → List (List G_Card) → Int → Int → {R : Type} → (List (List G_Card) → Int → Option R) → Option R
  | 0, _, _, _, _, _, _, _ => none
  | n + 1, v2, v3, v4, v5, v6, _, e0 => (bif (decide (v6 < v5)) then (get_ v4 v6 fun x8 => (bif (decide ((w64 (v3 + (x8.length : Int))) < 0)) then none else slices_Concat__Card_L3 g n v2 (w64 (v3 + (x8.length : Int))) v4 v5 (w64 (v6 + 1)) e0)) else e0 v2 v3)
def slices_Concat__Card_L11 (g : C_slices_Concat__Card) : Nat → List (List G_Card) → Int → Int → List G_Card → {R : Type} → (List G_Card → Option R) → Option R
  | 0, _, _, _, _, _, _ => none
  | n + 1, v12, v13, v14, v15, _, e0 => (bif (decide (v14 < v13)) then (get_ v12 v14 fun x17 => (bif (decide ((v15.length + x17.length) * 56 ≤ roomBytes')) then slices_Concat__Card_L11 g n v12 v13 (w64 (v14 + 1)) (v15 ++ x17) e0 else none)) else e0 v15)
def slices_Concat__Card_ (g : C_slices_Concat__Card) (a1 : List (List G_Card)) {R : Type} (k0 : List G_Card → Option R) : Option R :=
  (slices_Concat__Card_L3 g g.N a1 0 a1 (a1.length : Int) 0 (fun e9 e10 => (g.slices_Grow__Card_n0 e10 (fun r11 => (slices_Concat__Card_L11 g g.N e9 (e9.length : Int) 0 r11 (fun e18 => k0 e18))))))
noncomputable def I_slices_Concat__Card [Fuel] : C_slices_Concat__Card := ⟨NN, @slices_Grow__Card_n0 _⟩
noncomputable def slices_Concat__Card [Fuel] : T_slices_Concat__Card := @slices_Concat__Card_ I_slices_Concat__Card
def SS_slices_Concat__Card (g : T_slices_Concat__Card) : Spec A := fun args => match args with | [.d (.sl 51 a1)] => fun k => g a1 (fun z0 => k (.arr 66 z0) [.undef]) | _ => fun _ => none
def sh_slices_Concat__Card_L3 : SSt := mkSh 36 3 [(0, .sl 51), (3, .int .i64), (9, .sl 51), (10, .int .i64), (11, .int .i64)] []
def LP_slices_Concat__Card_L3 (g : C_slices_Concat__Card) (n : Nat) : LPT A := fun ps => match ps with | [.d (.sl 51 p1), .d (.int .i64 p2), .d (.sl 51 p3), .d (.int .i64 p4), .d (.int .i64 p5)] => fun K => slices_Concat__Card_L3 g n p1 p2 p3 p4 p5 (fun z0 z1 => K (.exit 0) (mkSt 36 3 [(0, .d (.sl 51 z0)), (3, .d (.int .i64 z1))] [])) | _ => fun _ => none
def sh_slices_Concat__Card_L11 : SSt := mkSh 36 3 [(6, .own 66 1), (25, .sl 51), (26, .int .i64), (27, .int .i64)] [(1, .row 66)]
def LP_slices_Concat__Card_L11 (g : C_slices_Concat__Card) (n : Nat) : LPT A := fun ps => match ps with | [.d (.sl 51 p1), .d (.int .i64 p2), .d (.int .i64 p3), .d (.sl 66 p4)] => fun K => slices_Concat__Card_L11 g n p1 p2 p3 p4 (fun z0 => K (.exit 2) (mkSt 36 3 [(6, .own 66 1)] [(1, some (.row 66 z0))])) | _ => fun _ => none
noncomputable def code_104 : Code := (Tryz.f104.body).getD .skip
noncomputable def E_slices_Concat__Card (g : C_slices_Concat__Card) : Env A := mkE [(175, SS_slices_Grow__Card_n0 g.slices_Grow__Card_n0)] [(24, [0]), (33, [2])] [(3, ⟨[0, 3, 9, 10, 11], [], [], []⟩), (11, ⟨[6, 25, 26, 27], [(6, 66, 1)], [], []⟩)] [(3, ⟨[0, 3], [], [], []⟩), (11, ⟨[6], [], [1], []⟩)] [(3, pieceOf sh_slices_Concat__Card_L3 (LP_slices_Concat__Card_L3 g g.N)), (11, pieceOf sh_slices_Concat__Card_L11 (LP_slices_Concat__Card_L11 g g.N))] [] [] [] [(175, 0)] []
theorem ct_slices_Concat__Card [Fuel] : NatTab (E_slices_Concat__Card I_slices_Concat__Card).C := ct_of (P := Tryz.prog) (T := T) (.cons ok_slices_Grow__Card_n0 .nil) (by kernel_rfl)
noncomputable def cb_slices_Concat__Card_L3 : Code := sub [1, 1, 0, 1, 0, 0] code_104
theorem s_slices_Concat__Card_L3 (g : C_slices_Concat__Card) (n : Nat) : StepOk (E_slices_Concat__Card g) g.N cb_slices_Concat__Card_L3 sh_slices_Concat__Card_L3 (LP_slices_Concat__Card_L3 g) n := by intro ps; unfold LP_slices_Concat__Card_L3; split; exact .inr fun R K => (by kernel_rfl); exact .inl fun R K => rfl
theorem lf_slices_Concat__Card_L3 [Fuel] : LoopFine (E_slices_Concat__Card I_slices_Concat__Card) NN cb_slices_Concat__Card_L3 := fine_loop sh_slices_Concat__Card_L3 (LP_slices_Concat__Card_L3 I_slices_Concat__Card) (by kernel_rfl) ct_slices_Concat__Card (cuts0 (fun _ => rfl) (by kernel_rfl)) (fun ps R K => by unfold LP_slices_Concat__Card_L3; split <;> (try unfold slices_Concat__Card_L3) <;> rfl) (s_slices_Concat__Card_L3 I_slices_Concat__Card)
noncomputable def cb_slices_Concat__Card_L11 : Code := sub [1, 1, 1, 1, 0, 1, 0, 0] code_104
theorem s_slices_Concat__Card_L11 (g : C_slices_Concat__Card) (n : Nat) : StepOk (E_slices_Concat__Card g) g.N cb_slices_Concat__Card_L11 sh_slices_Concat__Card_L11 (LP_slices_Concat__Card_L11 g) n := by intro ps; unfold LP_slices_Concat__Card_L11; split; exact .inr fun R K => (by kernel_rfl); exact .inl fun R K => rfl
theorem lf_slices_Concat__Card_L11 [Fuel] : LoopFine (E_slices_Concat__Card I_slices_Concat__Card) NN cb_slices_Concat__Card_L11 := fine_loop sh_slices_Concat__Card_L11 (LP_slices_Concat__Card_L11 I_slices_Concat__Card) (by kernel_rfl) ct_slices_Concat__Card (cuts0 (fun _ => rfl) (by kernel_rfl)) (fun ps R K => by unfold LP_slices_Concat__Card_L11; split <;> (try unfold slices_Concat__Card_L11) <;> rfl) (s_slices_Concat__Card_L11 I_slices_Concat__Card)
theorem sm_slices_Concat__Card (g : C_slices_Concat__Card) : Same (SS_slices_Concat__Card (@slices_Concat__Card_ g)) (abody (E_slices_Concat__Card g) Tryz.f104 code_104 3 [] [.arr 66] g.N) := by intro args; unfold SS_slices_Concat__Card; split; exact .inr fun R k => (by kernel_rfl); exact .inl fun R k => rfl
theorem ok_slices_Concat__Card [Fuel] : Ok 104 (SS_slices_Concat__Card (@slices_Concat__Card _)) := okF_of std (.cons ok_slices_Grow__Card_n0 .nil) ⟨rfl, rfl, by kernel_rfl, rfl, rfl⟩ (sm_slices_Concat__Card I_slices_Concat__Card) (cutsL (fun _ => rfl) (.cons lf_slices_Concat__Card_L3 (.cons lf_slices_Concat__Card_L11 .nil)) (by kernel_rfl)) Tryz.func104 (by kernel_rfl) (by kernel_rfl)
end Go.Am
