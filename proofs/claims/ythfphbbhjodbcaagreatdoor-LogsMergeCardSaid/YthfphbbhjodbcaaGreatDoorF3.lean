/- The functions of the program as Lean functions, each shown to be what the code computes, part 3. No condition: lemmas for the claim. -/
import Derived.Test.YthfphbbhjodbcaaGreatDoorF0
import Derived.Test.YthfphbbhjodbcaaGreatDoorFSh
import Derived.Test.YthfphbbhjodbcaaGreatDoorF1
import Derived.Test.YthfphbbhjodbcaaGreatDoorF2
set_option linter.unusedVariables false
set_option maxRecDepth 100000
namespace Go.Am
open Go Go.Proofs
abbrev T_strings_LastIndexAny : Type 1 := List UInt8 → List UInt8 → {R : Type} → (Int → Option R) → Option R
structure C_strings_LastIndexAny where
  N : Nat
  strings_makeASCIISet : T_strings_makeASCIISet
  utf8_DecodeLastRuneInString : T_utf8_DecodeLastRuneInString
  strings_IndexRune : T_strings_IndexRune
  strings_shouldUseASCIISet : T_strings_shouldUseASCIISet
def strings_LastIndexAny_L24 (g : C_strings_LastIndexAny) : Nat → List UInt8 → Int → Int → {R : Type} → (Int → Option R) → Option R → Option R
  | 0, _, _, _, _, _, _ => none
  | n + 1, v8, v9, v10, _, e0, e1 => (bif (decide (v10 > 0)) then (bif (decide (0 ≤ v10) && decide (v10 ≤ (v8.length : Int))) then (g.utf8_DecodeLastRuneInString (v8.take (v10 : Int).toNat) (fun r13 r14 => (bif (v9 == r13) then e0 (w64 (v10 - r14)) else strings_LastIndexAny_L24 g n v8 v9 (w64 (v10 - r14)) e0 e1))) else none) else e1)
def strings_LastIndexAny_L31 (g : C_strings_LastIndexAny) : Nat → List UInt8 → List UInt8 → Int → {R : Type} → (Int → Option R) → Option R → Option R
  | 0, _, _, _, _, _, _ => none
  | n + 1, v17, v18, v19, _, e0, e1 => (bif (decide (v19 > 0)) then (bif (decide (0 ≤ v19) && decide (v19 ≤ (v17.length : Int))) then (g.utf8_DecodeLastRuneInString (v17.take (v19 : Int).toNat) (fun r23 r24 => (g.strings_IndexRune v18 r23 (fun r25 => (bif (decide (r25 ≥ 0)) then e0 (w64 (v19 - r24)) else strings_LastIndexAny_L31 g n v17 v18 (w64 (v19 - r24)) e0 e1))))) else none) else e1)
def strings_LastIndexAny_ (g : C_strings_LastIndexAny) (a1 a2 : List UInt8) {R : Type} (k0 : Int → Option R) : Option R :=
  (bif (a2 == []) then k0 (-1) else (bif ((a1.length : Int) == 1) then (at_ a1 0 fun x3 => (bif (decide ((IntKind.i32.wrap (x3.toNat : Int)) ≥ 128)) then (g.strings_IndexRune a2 65533 (fun r4 => (bif (decide (r4 ≥ 0)) then k0 0 else k0 (-1)))) else (g.strings_IndexRune a2 (IntKind.i32.wrap (x3.toNat : Int)) (fun r5 => (bif (decide (r5 ≥ 0)) then k0 0 else k0 (-1)))))) else (g.strings_shouldUseASCIISet (a1.length : Int) (fun r6 => (bif r6 then (g.strings_makeASCIISet a2) else (bif ((a2.length : Int) == 1) then (at_ a2 0 fun x7 => (bif (decide ((IntKind.i32.wrap (x7.toNat : Int)) ≥ 128)) then (strings_LastIndexAny_L24 g g.N a1 65533 (a1.length : Int) (fun e15 => k0 e15) (k0 (-1))) else (strings_LastIndexAny_L24 g g.N a1 (IntKind.i32.wrap (x7.toNat : Int)) (a1.length : Int) (fun e16 => k0 e16) (k0 (-1))))) else (strings_LastIndexAny_L31 g g.N a1 a2 (a1.length : Int) (fun e26 => k0 e26) (k0 (-1)))))))))
def I_strings_LastIndexAny [Fuel] : C_strings_LastIndexAny := ⟨NN, @strings_makeASCIISet _, @utf8_DecodeLastRuneInString _, @strings_IndexRune _, @strings_shouldUseASCIISet _⟩
def strings_LastIndexAny [Fuel] : T_strings_LastIndexAny := @strings_LastIndexAny_ I_strings_LastIndexAny
def SS_strings_LastIndexAny (g : T_strings_LastIndexAny) : Spec A := fun args => match args with | [.d (.str a1), .d (.str a2)] => fun k => g a1 a2 (fun z0 => k (.d (.int .i64 z0)) [.undef, .undef]) | _ => fun _ => none
def sh_strings_LastIndexAny_L24 : SSt := mkSh 96 0 [(0, .str), (9, .int .i32), (10, .int .i64)] []
def LP_strings_LastIndexAny_L24 (g : C_strings_LastIndexAny) (n : Nat) : LPT A := fun ps => match ps with | [.d (.str p1), .d (.int .i32 p2), .d (.int .i64 p3)] => fun K => strings_LastIndexAny_L24 g n p1 p2 p3 (fun z0 => K .ret (mkSt 96 0 [(4, .d (.int .i64 z0))] [])) (K (.exit 2) (mkSt 96 0 [] [])) | _ => fun _ => none
def sh_strings_LastIndexAny_L31 : SSt := mkSh 96 0 [(0, .str), (1, .str), (13, .int .i64)] []
def LP_strings_LastIndexAny_L31 (g : C_strings_LastIndexAny) (n : Nat) : LPT A := fun ps => match ps with | [.d (.str p1), .d (.str p2), .d (.int .i64 p3)] => fun K => strings_LastIndexAny_L31 g n p1 p2 p3 (fun z0 => K .ret (mkSt 96 0 [(4, .d (.int .i64 z0))] [])) (K (.exit 4) (mkSt 96 0 [] [])) | _ => fun _ => none
noncomputable def code_109 : Code := (Tryz.f109.body).getD .skip
noncomputable def E_strings_LastIndexAny (g : C_strings_LastIndexAny) : Env A := mkE [(98, SS_strings_makeASCIISet g.strings_makeASCIISet), (118, SS_utf8_DecodeLastRuneInString g.utf8_DecodeLastRuneInString), (124, SS_strings_IndexRune g.strings_IndexRune), (125, SS_strings_shouldUseASCIISet g.strings_shouldUseASCIISet)] [] [(24, ⟨[0, 9, 10], [], [], []⟩), (31, ⟨[0, 1, 13], [], [], []⟩)] [(24, ⟨[4], [], [], []⟩), (31, ⟨[4], [], [], []⟩)] [(24, pieceOf sh_strings_LastIndexAny_L24 (LP_strings_LastIndexAny_L24 g g.N)), (31, pieceOf sh_strings_LastIndexAny_L31 (LP_strings_LastIndexAny_L31 g g.N))] [] [] [] [] []
theorem ct_strings_LastIndexAny [Fuel] : NatTab (E_strings_LastIndexAny I_strings_LastIndexAny).C := ct_of (P := Tryz.prog) (T := T) (.cons ok_strings_makeASCIISet (.cons ok_utf8_DecodeLastRuneInString (.cons ok_strings_IndexRune (.cons ok_strings_shouldUseASCIISet .nil)))) (by kernel_rfl)
noncomputable def cb_strings_LastIndexAny_L14 : Code := sub [1, 1, 1, 0, 1, 0, 1, 1, 0, 0, 1, 0, 0] code_109
theorem lf_strings_LastIndexAny_L14 [Fuel] : LoopFine (E_strings_LastIndexAny I_strings_LastIndexAny) NN cb_strings_LastIndexAny_L14 := no_loop (by kernel_rfl)
noncomputable def cb_strings_LastIndexAny_L24 : Code := sub [1, 1, 1, 1, 0, 1, 0, 1, 1, 0, 1, 0, 0] code_109
theorem s_strings_LastIndexAny_L24 (g : C_strings_LastIndexAny) (n : Nat) : StepOk (E_strings_LastIndexAny g) g.N cb_strings_LastIndexAny_L24 sh_strings_LastIndexAny_L24 (LP_strings_LastIndexAny_L24 g) n := by intro ps; unfold LP_strings_LastIndexAny_L24; split; exact .inr fun R K => (by kernel_rfl); exact .inl fun R K => rfl
theorem lf_strings_LastIndexAny_L24 [Fuel] : LoopFine (E_strings_LastIndexAny I_strings_LastIndexAny) NN cb_strings_LastIndexAny_L24 := fine_loop sh_strings_LastIndexAny_L24 (LP_strings_LastIndexAny_L24 I_strings_LastIndexAny) (by kernel_rfl) ct_strings_LastIndexAny (cuts0 (fun _ => rfl) (by kernel_rfl)) (fun ps R K => by unfold LP_strings_LastIndexAny_L24; split <;> (try unfold strings_LastIndexAny_L24) <;> rfl) (s_strings_LastIndexAny_L24 I_strings_LastIndexAny)
noncomputable def cb_strings_LastIndexAny_L31 : Code := sub [1, 1, 1, 1, 1, 0, 1, 0, 0] code_109
theorem s_strings_LastIndexAny_L31 (g : C_strings_LastIndexAny) (n : Nat) : StepOk (E_strings_LastIndexAny g) g.N cb_strings_LastIndexAny_L31 sh_strings_LastIndexAny_L31 (LP_strings_LastIndexAny_L31 g) n := by intro ps; unfold LP_strings_LastIndexAny_L31; split; exact .inr fun R K => (by kernel_rfl); exact .inl fun R K => rfl
theorem lf_strings_LastIndexAny_L31 [Fuel] : LoopFine (E_strings_LastIndexAny I_strings_LastIndexAny) NN cb_strings_LastIndexAny_L31 := fine_loop sh_strings_LastIndexAny_L31 (LP_strings_LastIndexAny_L31 I_strings_LastIndexAny) (by kernel_rfl) ct_strings_LastIndexAny (cuts0 (fun _ => rfl) (by kernel_rfl)) (fun ps R K => by unfold LP_strings_LastIndexAny_L31; split <;> (try unfold strings_LastIndexAny_L31) <;> rfl) (s_strings_LastIndexAny_L31 I_strings_LastIndexAny)
theorem sm_strings_LastIndexAny (g : C_strings_LastIndexAny) : Same (SS_strings_LastIndexAny (@strings_LastIndexAny_ g)) (abody (E_strings_LastIndexAny g) Tryz.f109 code_109 0 [] [.asis] g.N) := by intro args; unfold SS_strings_LastIndexAny; split; exact .inr fun R k => (by kernel_rfl); exact .inl fun R k => rfl
theorem ok_strings_LastIndexAny [Fuel] : Ok 109 (SS_strings_LastIndexAny (@strings_LastIndexAny _)) := okF_of std (.cons ok_strings_makeASCIISet (.cons ok_utf8_DecodeLastRuneInString (.cons ok_strings_IndexRune (.cons ok_strings_shouldUseASCIISet .nil)))) ⟨rfl, rfl, by kernel_rfl, rfl, rfl⟩ (sm_strings_LastIndexAny I_strings_LastIndexAny) (cutsL (fun _ => rfl) (.cons lf_strings_LastIndexAny_L14 (.cons lf_strings_LastIndexAny_L24 (.cons lf_strings_LastIndexAny_L31 .nil))) (by kernel_rfl)) Tryz.func109 (by kernel_rfl) (by kernel_rfl)
abbrev T_call_split : Type 1 := List UInt8 → {R : Type} → (Int → Bool → Option R) → Option R
structure C_call_split where
  N : Nat
  strings_LastIndexAny : T_strings_LastIndexAny
  call_isPlain : T_call_isPlain
def call_split_ (g : C_call_split) (a1 : List UInt8) {R : Type} (k0 : Int → Bool → Option R) : Option R :=
  (g.call_isPlain a1 (fun r2 r3 => (bif (!r3) then k0 0 false else (bif (decide ((a1.length : Int) > 10)) then k0 0 false else (g.strings_LastIndexAny a1 [48, 49, 50, 51, 52, 53, 54, 55, 56, 57] (fun r4 => (bif (decide (r4 < 1)) then k0 0 false else (bif (decide (r4 > 3)) then k0 0 false else (bif (decide ((w64 ((w64 ((a1.length : Int) - r4)) - 1)) < 1)) then k0 0 false else (bif (decide ((w64 ((w64 ((a1.length : Int) - r4)) - 1)) > 4)) then k0 0 false else (bif (decide (0 ≤ r4) && decide (r4 ≤ (a1.length : Int))) then (g.call_isPlain (a1.take (r4 : Int).toNat) (fun r5 r6 => k0 r4 (decide (r5 > 0)))) else none)))))))))))
def I_call_split [Fuel] : C_call_split := ⟨NN, @strings_LastIndexAny _, @call_isPlain _⟩
def call_split [Fuel] : T_call_split := @call_split_ I_call_split
def SS_call_split (g : T_call_split) : Spec A := fun args => match args with | [.d (.str a1)] => fun k => g a1 (fun z0 z1 => k (.tup [.d (.int .i64 z0), .d (.bool z1)]) [.undef]) | _ => fun _ => none
noncomputable def code_119 : Code := (Tryz.f119.body).getD .skip
noncomputable def E_call_split (g : C_call_split) : Env A := mkE [(109, SS_strings_LastIndexAny g.strings_LastIndexAny), (120, SS_call_isPlain g.call_isPlain)] [] [] [] [] [] [] [] [] []
theorem sm_call_split (g : C_call_split) : Same (SS_call_split (@call_split_ g)) (abody (E_call_split g) Tryz.f119 code_119 0 [] [.asis, .asis] g.N) := by intro args; unfold SS_call_split; split; exact .inr fun R k => (by kernel_rfl); exact .inl fun R k => rfl
theorem ok_call_split [Fuel] : Ok 119 (SS_call_split (@call_split _)) := okF_of std (.cons ok_strings_LastIndexAny (.cons ok_call_isPlain .nil)) ⟨rfl, rfl, by kernel_rfl, rfl, rfl⟩ (sm_call_split I_call_split) (cuts0 (fun _ => rfl) (by kernel_rfl)) Tryz.func119 (by kernel_rfl) (by kernel_rfl)
abbrev T_call_based : Type 1 := List UInt8 → {R : Type} → (G_Parts → Bool → Option R) → Option R
structure C_call_based where
  N : Nat
  call_split : T_call_split
def call_based_ (g : C_call_based) (a1 : List UInt8) {R : Type} (k0 : G_Parts → Bool → Option R) : Option R :=
  (g.call_split a1 (fun r2 r3 => (bif (!r3) then k0 (⟨[], [], [], 0, []⟩ : G_Parts) false else (bif (decide (0 ≤ (w64 (r2 + 1))) && decide ((w64 (r2 + 1)) ≤ (a1.length : Int))) then (bif (decide (0 ≤ (w64 (r2 + 1))) && decide ((w64 (r2 + 1)) ≤ (a1.length : Int))) then k0 (⟨a1, (a1.take ((w64 (r2 + 1)) : Int).toNat), (a1.drop ((w64 (r2 + 1)) : Int).toNat), 0, []⟩ : G_Parts) true else none) else none))))
def I_call_based [Fuel] : C_call_based := ⟨NN, @call_split _⟩
def call_based [Fuel] : T_call_based := @call_based_ I_call_based
def SS_call_based (g : T_call_based) : Spec A := fun args => match args with | [.d (.str a1)] => fun k => g a1 (fun z0 z1 => k (.tup [.agg [.d (.str z0.f_Base), .d (.str z0.f_Prefix), .d (.str z0.f_Suffix), .d (.int .i64 z0.f_Kind), .d (.str z0.f_Added)], .d (.bool z1)]) [.undef]) | _ => fun _ => none
noncomputable def code_103 : Code := (Tryz.f103.body).getD .skip
noncomputable def E_call_based (g : C_call_based) : Env A := mkE [(119, SS_call_split g.call_split)] [(2, [0])] [] [] [] [] [] [] [] []
theorem sm_call_based (g : C_call_based) : Same (SS_call_based (@call_based_ g)) (abody (E_call_based g) Tryz.f103 code_103 1 [] [.asis, .asis] g.N) := by intro args; unfold SS_call_based; split; exact .inr fun R k => (by kernel_rfl); exact .inl fun R k => rfl
theorem ok_call_based [Fuel] : Ok 103 (SS_call_based (@call_based _)) := okF_of std (.cons ok_call_split .nil) ⟨rfl, rfl, by kernel_rfl, rfl, rfl⟩ (sm_call_based I_call_based) (cuts0 (fun _ => rfl) (by kernel_rfl)) Tryz.func103 (by kernel_rfl) (by kernel_rfl)
abbrev T_stringslite_Index : Type 1 := List UInt8 → List UInt8 → {R : Type} → (Int → Option R) → Option R
def stringslite_Index [Fuel] : T_stringslite_Index := @X_ix1
def SS_stringslite_Index (g : T_stringslite_Index) : Spec A := SSX_ix1 g
theorem ok_stringslite_Index [Fuel] : Ok 123 (SS_stringslite_Index (@stringslite_Index _)) := ⟨ssx_ix1_sound (ix1_sound (Any.stringslite_Index_one Tryz.lays219)), ssx_ix1_nat, enters_of (fn := Tryz.f123) Tryz.func123 (by kernel_rfl) (by kernel_rfl)⟩
abbrev T_stringslite_Cut : Type 1 := List UInt8 → List UInt8 → {R : Type} → (List UInt8 → List UInt8 → Bool → Option R) → Option R
structure C_stringslite_Cut where
  N : Nat
  stringslite_Index : T_stringslite_Index
def stringslite_Cut_ (g : C_stringslite_Cut) (a1 a2 : List UInt8) {R : Type} (k0 : List UInt8 → List UInt8 → Bool → Option R) : Option R :=
  (g.stringslite_Index a1 a2 (fun r3 => (bif (decide (r3 ≥ 0)) then (bif (decide (0 ≤ r3) && decide (r3 ≤ (a1.length : Int))) then (bif (decide (0 ≤ (w64 (r3 + (a2.length : Int)))) && decide ((w64 (r3 + (a2.length : Int))) ≤ (a1.length : Int))) then k0 (a1.take (r3 : Int).toNat) (a1.drop ((w64 (r3 + (a2.length : Int))) : Int).toNat) true else none) else none) else k0 a1 [] false)))
def I_stringslite_Cut [Fuel] : C_stringslite_Cut := ⟨NN, @stringslite_Index _⟩
def stringslite_Cut [Fuel] : T_stringslite_Cut := @stringslite_Cut_ I_stringslite_Cut
def SS_stringslite_Cut (g : T_stringslite_Cut) : Spec A := fun args => match args with | [.d (.str a1), .d (.str a2)] => fun k => g a1 a2 (fun z0 z1 z2 => k (.tup [.d (.str z0), .d (.str z1), .d (.bool z2)]) [.undef, .undef]) | _ => fun _ => none
noncomputable def code_108 : Code := (Tryz.f108.body).getD .skip
noncomputable def E_stringslite_Cut (g : C_stringslite_Cut) : Env A := mkE [(123, SS_stringslite_Index g.stringslite_Index)] [] [] [] [] [] [] [] [] []
theorem sm_stringslite_Cut (g : C_stringslite_Cut) : Same (SS_stringslite_Cut (@stringslite_Cut_ g)) (abody (E_stringslite_Cut g) Tryz.f108 code_108 0 [] [.asis, .asis, .asis] g.N) := by intro args; unfold SS_stringslite_Cut; split; exact .inr fun R k => (by kernel_rfl); exact .inl fun R k => rfl
theorem ok_stringslite_Cut [Fuel] : Ok 108 (SS_stringslite_Cut (@stringslite_Cut _)) := okF_of std (.cons ok_stringslite_Index .nil) ⟨rfl, rfl, by kernel_rfl, rfl, rfl⟩ (sm_stringslite_Cut I_stringslite_Cut) (cuts0 (fun _ => rfl) (by kernel_rfl)) Tryz.func108 (by kernel_rfl) (by kernel_rfl)
abbrev T_strings_Cut : Type 1 := List UInt8 → List UInt8 → {R : Type} → (List UInt8 → List UInt8 → Bool → Option R) → Option R
structure C_strings_Cut where
  N : Nat
  stringslite_Cut : T_stringslite_Cut
def strings_Cut_ (g : C_strings_Cut) (a1 a2 : List UInt8) {R : Type} (k0 : List UInt8 → List UInt8 → Bool → Option R) : Option R :=
  (g.stringslite_Cut a1 a2 (fun r3 r4 r5 => k0 r3 r4 r5))
def I_strings_Cut [Fuel] : C_strings_Cut := ⟨NN, @stringslite_Cut _⟩
def strings_Cut [Fuel] : T_strings_Cut := @strings_Cut_ I_strings_Cut
def SS_strings_Cut (g : T_strings_Cut) : Spec A := fun args => match args with | [.d (.str a1), .d (.str a2)] => fun k => g a1 a2 (fun z0 z1 z2 => k (.tup [.d (.str z0), .d (.str z1), .d (.bool z2)]) [.undef, .undef]) | _ => fun _ => none
noncomputable def code_89 : Code := (Tryz.f89.body).getD .skip
noncomputable def E_strings_Cut (g : C_strings_Cut) : Env A := mkE [(108, SS_stringslite_Cut g.stringslite_Cut)] [] [] [] [] [] [] [] [] []
theorem sm_strings_Cut (g : C_strings_Cut) : Same (SS_strings_Cut (@strings_Cut_ g)) (abody (E_strings_Cut g) Tryz.f89 code_89 0 [] [.asis, .asis, .asis] g.N) := by intro args; unfold SS_strings_Cut; split; exact .inr fun R k => (by kernel_rfl); exact .inl fun R k => rfl
theorem ok_strings_Cut [Fuel] : Ok 89 (SS_strings_Cut (@strings_Cut _)) := okF_of std (.cons ok_stringslite_Cut .nil) ⟨rfl, rfl, by kernel_rfl, rfl, rfl⟩ (sm_strings_Cut I_strings_Cut) (cuts0 (fun _ => rfl) (by kernel_rfl)) Tryz.func89 (by kernel_rfl) (by kernel_rfl)
abbrev T_call_isBegin : Type 1 := List UInt8 → {R : Type} → (Bool → Option R) → Option R
structure C_call_isBegin where
  N : Nat
  call_isPlain : T_call_isPlain
def call_isBegin_ (g : C_call_isBegin) (a1 : List UInt8) {R : Type} (k0 : Bool → Option R) : Option R :=
  (g.call_isPlain a1 (fun r2 r3 => (bif r3 then (bif (decide (r2 > 0)) then k0 (decide ((a1.length : Int) ≤ 4)) else k0 false) else k0 false)))
def I_call_isBegin [Fuel] : C_call_isBegin := ⟨NN, @call_isPlain _⟩
def call_isBegin [Fuel] : T_call_isBegin := @call_isBegin_ I_call_isBegin
def SS_call_isBegin (g : T_call_isBegin) : Spec A := fun args => match args with | [.d (.str a1)] => fun k => g a1 (fun z0 => k (.d (.bool z0)) [.undef]) | _ => fun _ => none
noncomputable def code_104 : Code := (Tryz.f104.body).getD .skip
noncomputable def E_call_isBegin (g : C_call_isBegin) : Env A := mkE [(120, SS_call_isPlain g.call_isPlain)] [] [] [] [] [] [] [] [] []
theorem sm_call_isBegin (g : C_call_isBegin) : Same (SS_call_isBegin (@call_isBegin_ g)) (abody (E_call_isBegin g) Tryz.f104 code_104 0 [] [.asis] g.N) := by intro args; unfold SS_call_isBegin; split; exact .inr fun R k => (by kernel_rfl); exact .inl fun R k => rfl
theorem ok_call_isBegin [Fuel] : Ok 104 (SS_call_isBegin (@call_isBegin _)) := okF_of std (.cons ok_call_isPlain .nil) ⟨rfl, rfl, by kernel_rfl, rfl, rfl⟩ (sm_call_isBegin I_call_isBegin) (cuts0 (fun _ => rfl) (by kernel_rfl)) Tryz.func104 (by kernel_rfl) (by kernel_rfl)
abbrev T_call_tail : Type 1 := List UInt8 → {R : Type} → (Int → List UInt8 → Bool → Option R) → Option R
structure C_call_tail where
  N : Nat
  call_isBegin : T_call_isBegin
  call_isDigit : T_call_isDigit
def call_tail_ (g : C_call_tail) (a1 : List UInt8) {R : Type} (k0 : Int → List UInt8 → Bool → Option R) : Option R :=
  (bif (a1 == [112]) then k0 3 [] true else (bif (a1 == [109]) then k0 4 [] true else (bif (a1 == [109, 109]) then k0 5 [] true else (bif (a1 == [97, 109]) then k0 6 [] true else (bif ((a1.length : Int) == 1) then (at_ a1 0 fun x2 => (g.call_isDigit (x2.toNat : Int) (fun r3 => (bif r3 then k0 2 a1 true else (g.call_isBegin a1 (fun r4 => k0 1 a1 r4)))))) else (g.call_isBegin a1 (fun r5 => k0 1 a1 r5)))))))
def I_call_tail [Fuel] : C_call_tail := ⟨NN, @call_isBegin _, @call_isDigit _⟩
def call_tail [Fuel] : T_call_tail := @call_tail_ I_call_tail
def SS_call_tail (g : T_call_tail) : Spec A := fun args => match args with | [.d (.str a1)] => fun k => g a1 (fun z0 z1 z2 => k (.tup [.d (.int .i64 z0), .d (.str z1), .d (.bool z2)]) [.undef]) | _ => fun _ => none
noncomputable def code_105 : Code := (Tryz.f105.body).getD .skip
noncomputable def E_call_tail (g : C_call_tail) : Env A := mkE [(104, SS_call_isBegin g.call_isBegin), (121, SS_call_isDigit g.call_isDigit)] [] [] [] [] [] [] [] [] []
theorem sm_call_tail (g : C_call_tail) : Same (SS_call_tail (@call_tail_ g)) (abody (E_call_tail g) Tryz.f105 code_105 0 [] [.asis, .asis, .asis] g.N) := by intro args; unfold SS_call_tail; split; exact .inr fun R k => (by kernel_rfl); exact .inl fun R k => rfl
theorem ok_call_tail [Fuel] : Ok 105 (SS_call_tail (@call_tail _)) := okF_of std (.cons ok_call_isBegin (.cons ok_call_isDigit .nil)) ⟨rfl, rfl, by kernel_rfl, rfl, rfl⟩ (sm_call_tail I_call_tail) (cuts0 (fun _ => rfl) (by kernel_rfl)) Tryz.func105 (by kernel_rfl) (by kernel_rfl)
abbrev T_call_Parts : Type 1 := List UInt8 → {R : Type} → (G_Parts → Bool → Option R) → Option R
structure C_call_Parts where
  N : Nat
  strings_Cut : T_strings_Cut
  call_based : T_call_based
  call_isBegin : T_call_isBegin
  call_tail : T_call_tail
def call_Parts_ (g : C_call_Parts) (a1 : List UInt8) {R : Type} (k0 : G_Parts → Bool → Option R) : Option R :=
  (bif (decide ((a1.length : Int) > 14)) then k0 (⟨[], [], [], 0, []⟩ : G_Parts) false else (g.call_based a1 (fun r2 r3 => (bif r3 then k0 r2 true else (g.strings_Cut a1 [47] (fun r4 r5 r6 => (bif (!r6) then k0 (⟨[], [], [], 0, []⟩ : G_Parts) false else (g.call_based r5 (fun r7 r8 => (bif r8 then (g.call_isBegin r4 (fun r9 => (bif r9 then k0 (⟨r7.f_Base, r7.f_Prefix, r7.f_Suffix, 1, r4⟩ : G_Parts) true else (g.call_based r4 (fun r10 r11 => (g.call_tail r5 (fun r12 r13 r14 => (bif (!r11) then k0 (⟨[], [], [], 0, []⟩ : G_Parts) false else (bif (!r14) then k0 (⟨[], [], [], 0, []⟩ : G_Parts) false else k0 (⟨r10.f_Base, r10.f_Prefix, r10.f_Suffix, r12, r13⟩ : G_Parts) true))))))))) else (g.call_based r4 (fun r15 r16 => (g.call_tail r5 (fun r17 r18 r19 => (bif (!r16) then k0 (⟨[], [], [], 0, []⟩ : G_Parts) false else (bif (!r19) then k0 (⟨[], [], [], 0, []⟩ : G_Parts) false else k0 (⟨r15.f_Base, r15.f_Prefix, r15.f_Suffix, r17, r18⟩ : G_Parts) true))))))))))))))))
def I_call_Parts [Fuel] : C_call_Parts := ⟨NN, @strings_Cut _, @call_based _, @call_isBegin _, @call_tail _⟩
def call_Parts [Fuel] : T_call_Parts := @call_Parts_ I_call_Parts
def SS_call_Parts (g : T_call_Parts) : Spec A := fun args => match args with | [.d (.str a1)] => fun k => g a1 (fun z0 z1 => k (.tup [.agg [.d (.str z0.f_Base), .d (.str z0.f_Prefix), .d (.str z0.f_Suffix), .d (.int .i64 z0.f_Kind), .d (.str z0.f_Added)], .d (.bool z1)]) [.undef]) | _ => fun _ => none
noncomputable def code_84 : Code := (Tryz.f84.body).getD .skip
noncomputable def E_call_Parts (g : C_call_Parts) : Env A := mkE [(89, SS_strings_Cut g.strings_Cut), (103, SS_call_based g.call_based), (104, SS_call_isBegin g.call_isBegin), (105, SS_call_tail g.call_tail)] [(2, [0]), (4, [1]), (9, [2]), (11, [3])] [] [] [] [] [] [] [] []
theorem sm_call_Parts (g : C_call_Parts) : Same (SS_call_Parts (@call_Parts_ g)) (abody (E_call_Parts g) Tryz.f84 code_84 4 [] [.asis, .asis] g.N) := by intro args; unfold SS_call_Parts; split; exact .inr fun R k => (by kernel_rfl); exact .inl fun R k => rfl
theorem ok_call_Parts [Fuel] : Ok 84 (SS_call_Parts (@call_Parts _)) := okF_of std (.cons ok_strings_Cut (.cons ok_call_based (.cons ok_call_isBegin (.cons ok_call_tail .nil)))) ⟨rfl, rfl, by kernel_rfl, rfl, rfl⟩ (sm_call_Parts I_call_Parts) (cuts0 (fun _ => rfl) (by kernel_rfl)) Tryz.func84 (by kernel_rfl) (by kernel_rfl)
abbrev T_call_Is : Type 1 := List UInt8 → {R : Type} → (Bool → Option R) → Option R
structure C_call_Is where
  N : Nat
  call_Parts : T_call_Parts
def call_Is_ (g : C_call_Is) (a1 : List UInt8) {R : Type} (k0 : Bool → Option R) : Option R :=
  (g.call_Parts a1 (fun r2 r3 => k0 r3))
def I_call_Is [Fuel] : C_call_Is := ⟨NN, @call_Parts _⟩
def call_Is [Fuel] : T_call_Is := @call_Is_ I_call_Is
def SS_call_Is (g : T_call_Is) : Spec A := fun args => match args with | [.d (.str a1)] => fun k => g a1 (fun z0 => k (.d (.bool z0)) [.undef]) | _ => fun _ => none
noncomputable def code_67 : Code := (Tryz.f67.body).getD .skip
noncomputable def E_call_Is (g : C_call_Is) : Env A := mkE [(84, SS_call_Parts g.call_Parts)] [(3, [0])] [] [] [] [] [] [] [] []
theorem sm_call_Is (g : C_call_Is) : Same (SS_call_Is (@call_Is_ g)) (abody (E_call_Is g) Tryz.f67 code_67 1 [] [.asis] g.N) := by intro args; unfold SS_call_Is; split; exact .inr fun R k => (by kernel_rfl); exact .inl fun R k => rfl
theorem ok_call_Is [Fuel] : Ok 67 (SS_call_Is (@call_Is _)) := okF_of std (.cons ok_call_Parts .nil) ⟨rfl, rfl, by kernel_rfl, rfl, rfl⟩ (sm_call_Is I_call_Is) (cuts0 (fun _ => rfl) (by kernel_rfl)) Tryz.func67 (by kernel_rfl) (by kernel_rfl)
abbrev T_kit_IsName : Type 1 := List UInt8 → {R : Type} → (Bool → Option R) → Option R
structure C_kit_IsName where
  N : Nat
  kit_IsKey : T_kit_IsKey
def kit_IsName_ (g : C_kit_IsName) (a1 : List UInt8) {R : Type} (k0 : Bool → Option R) : Option R :=
  (bif (a1 == []) then k0 true else (g.kit_IsKey a1 (fun r2 => k0 r2)))
def I_kit_IsName [Fuel] : C_kit_IsName := ⟨NN, @kit_IsKey _⟩
def kit_IsName [Fuel] : T_kit_IsName := @kit_IsName_ I_kit_IsName
def SS_kit_IsName (g : T_kit_IsName) : Spec A := fun args => match args with | [.d (.str a1)] => fun k => g a1 (fun z0 => k (.d (.bool z0)) [.undef]) | _ => fun _ => none
noncomputable def code_68 : Code := (Tryz.f68.body).getD .skip
noncomputable def E_kit_IsName (g : C_kit_IsName) : Env A := mkE [(66, SS_kit_IsKey g.kit_IsKey)] [] [] [] [] [] [] [] [] []
theorem sm_kit_IsName (g : C_kit_IsName) : Same (SS_kit_IsName (@kit_IsName_ g)) (abody (E_kit_IsName g) Tryz.f68 code_68 0 [] [.asis] g.N) := by intro args; unfold SS_kit_IsName; split; exact .inr fun R k => (by kernel_rfl); exact .inl fun R k => rfl
theorem ok_kit_IsName [Fuel] : Ok 68 (SS_kit_IsName (@kit_IsName _)) := okF_of std (.cons ok_kit_IsKey .nil) ⟨rfl, rfl, by kernel_rfl, rfl, rfl⟩ (sm_kit_IsName I_kit_IsName) (cuts0 (fun _ => rfl) (by kernel_rfl)) Tryz.func68 (by kernel_rfl) (by kernel_rfl)
abbrev T_log_CheckContact : Type 1 := G_Contact → {R : Type} → (Int → Option R) → Option R
structure C_log_CheckContact where
  N : Nat
  kit_Outside : T_kit_Outside
  kit_IsMoment : T_kit_IsMoment
  kit_IsMode : T_kit_IsMode
  kit_IsKey : T_kit_IsKey
  call_Is : T_call_Is
  kit_IsName : T_kit_IsName
def log_CheckContact_ (g : C_log_CheckContact) (a1 : G_Contact) {R : Type} (k0 : Int → Option R) : Option R :=
  (g.kit_IsMoment a1.f_At (fun r2 => (bif (!r2) then k0 1 else (g.kit_IsMode a1.f_Mode (fun r3 => (bif (!r3) then k0 4 else (g.kit_IsKey a1.f_Band (fun r4 => (bif (!r4) then k0 5 else (g.call_Is a1.f_Call (fun r5 => (bif (!r5) then k0 3 else (g.kit_Outside a1.f_Sent 0 99999 (fun r6 => (bif r6 then k0 1 else (g.kit_Outside a1.f_Heard 0 99999 (fun r7 => (bif r7 then k0 1 else (g.kit_IsName a1.f_Gave (fun r8 => (bif (!r8) then k0 5 else (g.kit_IsName a1.f_Got (fun r9 => (bif (!r9) then k0 5 else k0 0))))))))))))))))))))))))
def I_log_CheckContact [Fuel] : C_log_CheckContact := ⟨NN, @kit_Outside _, @kit_IsMoment _, @kit_IsMode _, @kit_IsKey _, @call_Is _, @kit_IsName _⟩
def log_CheckContact [Fuel] : T_log_CheckContact := @log_CheckContact_ I_log_CheckContact
def SS_log_CheckContact (g : T_log_CheckContact) : Spec A := fun args => match args with | [.agg [.d (.int .i64 a1), .d (.int .i64 a2), .d (.str a3), .d (.str a4), .d (.int .i64 a5), .d (.int .i64 a6), .d (.str a7), .d (.str a8)]] => fun k => g ⟨a1, a2, a3, a4, a5, a6, a7, a8⟩ (fun z0 => k (.d (.int .i64 z0)) [.undef]) | _ => fun _ => none
noncomputable def code_35 : Code := (Tryz.f35.body).getD .skip
noncomputable def E_log_CheckContact (g : C_log_CheckContact) : Env A := mkE [(42, SS_kit_Outside g.kit_Outside), (64, SS_kit_IsMoment g.kit_IsMoment), (65, SS_kit_IsMode g.kit_IsMode), (66, SS_kit_IsKey g.kit_IsKey), (67, SS_call_Is g.call_Is), (68, SS_kit_IsName g.kit_IsName)] [(1, [0])] [] [] [] [] [] [] [] []
theorem sm_log_CheckContact (g : C_log_CheckContact) : Same (SS_log_CheckContact (@log_CheckContact_ g)) (abody (E_log_CheckContact g) Tryz.f35 code_35 1 [] [.asis] g.N) := by intro args; unfold SS_log_CheckContact; split; exact .inr fun R k => (by kernel_rfl); exact .inl fun R k => rfl
theorem ok_log_CheckContact [Fuel] : Ok 35 (SS_log_CheckContact (@log_CheckContact _)) := okF_of std (.cons ok_kit_Outside (.cons ok_kit_IsMoment (.cons ok_kit_IsMode (.cons ok_kit_IsKey (.cons ok_call_Is (.cons ok_kit_IsName .nil)))))) ⟨rfl, rfl, by kernel_rfl, rfl, rfl⟩ (sm_log_CheckContact I_log_CheckContact) (cuts0 (fun _ => rfl) (by kernel_rfl)) Tryz.func35 (by kernel_rfl) (by kernel_rfl)
abbrev T_cmp_isNaN__int : Type 1 := Int → {R : Type} → (Bool → Option R) → Option R
def cmp_isNaN__int_ (g : Nat) (a1 : Int) {R : Type} (k0 : Bool → Option R) : Option R :=
  k0 (a1 != a1)
def cmp_isNaN__int [Fuel] : T_cmp_isNaN__int := @cmp_isNaN__int_ NN
def SS_cmp_isNaN__int (g : T_cmp_isNaN__int) : Spec A := fun args => match args with | [.d (.int .i64 a1)] => fun k => g a1 (fun z0 => k (.d (.bool z0)) [.undef]) | _ => fun _ => none
noncomputable def code_94 : Code := (Tryz.f94.body).getD .skip
noncomputable def E_cmp_isNaN__int (g : Nat) : Env A := mkE [] [] [] [] [] [] [] [] [] []
theorem sm_cmp_isNaN__int (g : Nat) : Same (SS_cmp_isNaN__int (@cmp_isNaN__int_ g)) (abody (E_cmp_isNaN__int g) Tryz.f94 code_94 0 [] [.asis] g) := by intro args; unfold SS_cmp_isNaN__int; split; exact .inr fun R k => (by kernel_rfl); exact .inl fun R k => rfl
theorem ok_cmp_isNaN__int [Fuel] : Ok 94 (SS_cmp_isNaN__int (@cmp_isNaN__int _)) := okF_of std .nil ⟨rfl, rfl, by kernel_rfl, rfl, rfl⟩ (sm_cmp_isNaN__int NN) (cuts0 (fun _ => rfl) (by kernel_rfl)) Tryz.func94 (by kernel_rfl) (by kernel_rfl)
abbrev T_cmp_Compare__int : Type 1 := Int → Int → {R : Type} → (Int → Option R) → Option R
structure C_cmp_Compare__int where
  N : Nat
  cmp_isNaN__int : T_cmp_isNaN__int
def cmp_Compare__int_ (g : C_cmp_Compare__int) (a1 a2 : Int) {R : Type} (k0 : Int → Option R) : Option R :=
  (g.cmp_isNaN__int a1 (fun r3 => (g.cmp_isNaN__int a2 (fun r4 => (bif r3 then (bif r4 then k0 0 else k0 (-1)) else (bif r4 then k0 1 else (bif (decide (a1 < a2)) then k0 (-1) else (bif (decide (a1 > a2)) then k0 1 else k0 0))))))))
def I_cmp_Compare__int [Fuel] : C_cmp_Compare__int := ⟨NN, @cmp_isNaN__int _⟩
def cmp_Compare__int [Fuel] : T_cmp_Compare__int := @cmp_Compare__int_ I_cmp_Compare__int
def SS_cmp_Compare__int (g : T_cmp_Compare__int) : Spec A := fun args => match args with | [.d (.int .i64 a1), .d (.int .i64 a2)] => fun k => g a1 a2 (fun z0 => k (.d (.int .i64 z0)) [.undef, .undef]) | _ => fun _ => none
noncomputable def code_80 : Code := (Tryz.f80.body).getD .skip
noncomputable def E_cmp_Compare__int (g : C_cmp_Compare__int) : Env A := mkE [(94, SS_cmp_isNaN__int g.cmp_isNaN__int)] [] [] [] [] [] [] [] [] []
theorem sm_cmp_Compare__int (g : C_cmp_Compare__int) : Same (SS_cmp_Compare__int (@cmp_Compare__int_ g)) (abody (E_cmp_Compare__int g) Tryz.f80 code_80 0 [] [.asis] g.N) := by intro args; unfold SS_cmp_Compare__int; split; exact .inr fun R k => (by kernel_rfl); exact .inl fun R k => rfl
theorem ok_cmp_Compare__int [Fuel] : Ok 80 (SS_cmp_Compare__int (@cmp_Compare__int _)) := okF_of std (.cons ok_cmp_isNaN__int .nil) ⟨rfl, rfl, by kernel_rfl, rfl, rfl⟩ (sm_cmp_Compare__int I_cmp_Compare__int) (cuts0 (fun _ => rfl) (by kernel_rfl)) Tryz.func80 (by kernel_rfl) (by kernel_rfl)
abbrev T_cmp_Or__int : Type 1 := List Int → {R : Type} → (Int → Option R) → Option R
def cmp_Or__int_L3 (g : Nat) : Nat → Int → List Int → Int → Int → {R : Type} → (Int → Int → Option R) → (Int → Option R) → Option R
  | 0, _, _, _, _, _, _, _ => none
  | n + 1, v2, v3, v4, v5, _, e0, e1 => (bif (decide (v5 < v4)) then (get_ v3 v5 fun x7 => (bif (x7 != v2) then e0 x7 v2 else cmp_Or__int_L3 g n v2 v3 v4 (w64 (v5 + 1)) e0 e1)) else e1 v2)
def cmp_Or__int_ (g : Nat) (a1 : List Int) {R : Type} (k0 : Int → Option R) : Option R :=
  (cmp_Or__int_L3 g g 0 a1 (a1.length : Int) 0 (fun e8 e9 => k0 e8) (fun e10 => k0 e10))
def cmp_Or__int [Fuel] : T_cmp_Or__int := @cmp_Or__int_ NN
def SS_cmp_Or__int (g : T_cmp_Or__int) : Spec A := fun args => match args with | [.d (.sl 3 a1)] => fun k => g a1 (fun z0 => k (.d (.int .i64 z0)) [.undef]) | _ => fun _ => none
def sh_cmp_Or__int_L3 : SSt := mkSh 18 0 [(3, .int .i64), (6, .sl 3), (7, .int .i64), (8, .int .i64)] []
def LP_cmp_Or__int_L3 (g : Nat) (n : Nat) : LPT A := fun ps => match ps with | [.d (.int .i64 p1), .d (.sl 3 p2), .d (.int .i64 p3), .d (.int .i64 p4)] => fun K => cmp_Or__int_L3 g n p1 p2 p3 p4 (fun z0 z1 => K .ret (mkSt 18 0 [(2, .d (.int .i64 z0)), (3, .d (.int .i64 z1))] [])) (fun z0 => K (.exit 0) (mkSt 18 0 [(3, .d (.int .i64 z0))] [])) | _ => fun _ => none
noncomputable def code_79 : Code := (Tryz.f79.body).getD .skip
noncomputable def E_cmp_Or__int (g : Nat) : Env A := mkE [] [] [(3, ⟨[3, 6, 7, 8], [], [], []⟩)] [(3, ⟨[2, 3], [], [], []⟩)] [(3, pieceOf sh_cmp_Or__int_L3 (LP_cmp_Or__int_L3 g g))] [] [] [] [] []
theorem ct_cmp_Or__int [Fuel] : NatTab (E_cmp_Or__int NN).C := ct_of (P := Tryz.prog) (T := T) .nil (by kernel_rfl)
noncomputable def cb_cmp_Or__int_L3 : Code := sub [1, 1, 0, 1, 0, 0] code_79
theorem s_cmp_Or__int_L3 (g : Nat) (n : Nat) : StepOk (E_cmp_Or__int g) g cb_cmp_Or__int_L3 sh_cmp_Or__int_L3 (LP_cmp_Or__int_L3 g) n := by intro ps; unfold LP_cmp_Or__int_L3; split; exact .inr fun R K => (by kernel_rfl); exact .inl fun R K => rfl
theorem lf_cmp_Or__int_L3 [Fuel] : LoopFine (E_cmp_Or__int NN) NN cb_cmp_Or__int_L3 := fine_loop sh_cmp_Or__int_L3 (LP_cmp_Or__int_L3 NN) (by kernel_rfl) ct_cmp_Or__int (cuts0 (fun _ => rfl) (by kernel_rfl)) (fun ps R K => by unfold LP_cmp_Or__int_L3; split <;> (try unfold cmp_Or__int_L3) <;> rfl) (s_cmp_Or__int_L3 NN)
theorem sm_cmp_Or__int (g : Nat) : Same (SS_cmp_Or__int (@cmp_Or__int_ g)) (abody (E_cmp_Or__int g) Tryz.f79 code_79 0 [] [.asis] g) := by intro args; unfold SS_cmp_Or__int; split; exact .inr fun R k => (by kernel_rfl); exact .inl fun R k => rfl
theorem ok_cmp_Or__int [Fuel] : Ok 79 (SS_cmp_Or__int (@cmp_Or__int _)) := okF_of std .nil ⟨rfl, rfl, by kernel_rfl, rfl, rfl⟩ (sm_cmp_Or__int NN) (cutsL (fun _ => rfl) (.cons lf_cmp_Or__int_L3 .nil) (by kernel_rfl)) Tryz.func79 (by kernel_rfl) (by kernel_rfl)
abbrev T_log_Compare : Type 1 := G_Contact → G_Contact → {R : Type} → (Int → Option R) → Option R
structure C_log_Compare where
  N : Nat
  strings_Compare : T_strings_Compare
  cmp_Or__int : T_cmp_Or__int
  cmp_Compare__int : T_cmp_Compare__int
def log_Compare_ (g : C_log_Compare) (a1 a2 : G_Contact) {R : Type} (k0 : Int → Option R) : Option R :=
  (g.cmp_Compare__int a1.f_At a2.f_At (fun r3 => (g.strings_Compare a1.f_Call a2.f_Call (fun r4 => (g.strings_Compare a1.f_Band a2.f_Band (fun r5 => (g.cmp_Compare__int a1.f_Mode a2.f_Mode (fun r6 => (g.cmp_Or__int [r3, r4, r5, r6] (fun r7 => k0 r7))))))))))
def I_log_Compare [Fuel] : C_log_Compare := ⟨NN, @strings_Compare _, @cmp_Or__int _, @cmp_Compare__int _⟩
def log_Compare [Fuel] : T_log_Compare := @log_Compare_ I_log_Compare
def SS_log_Compare (g : T_log_Compare) : Spec A := fun args => match args with | [.agg [.d (.int .i64 a1), .d (.int .i64 a2), .d (.str a3), .d (.str a4), .d (.int .i64 a5), .d (.int .i64 a6), .d (.str a7), .d (.str a8)], .agg [.d (.int .i64 a9), .d (.int .i64 a10), .d (.str a11), .d (.str a12), .d (.int .i64 a13), .d (.int .i64 a14), .d (.str a15), .d (.str a16)]] => fun k => g ⟨a1, a2, a3, a4, a5, a6, a7, a8⟩ ⟨a9, a10, a11, a12, a13, a14, a15, a16⟩ (fun z0 => k (.d (.int .i64 z0)) [.undef, .undef]) | _ => fun _ => none
noncomputable def code_58 : Code := (Tryz.f58.body).getD .skip
noncomputable def E_log_Compare (g : C_log_Compare) : Env A := mkE [(74, SS_strings_Compare g.strings_Compare), (79, SS_cmp_Or__int g.cmp_Or__int), (80, SS_cmp_Compare__int g.cmp_Compare__int)] [(2, [0]), (3, [1]), (25, [2])] [] [] [] [] [] [] [] []
theorem sm_log_Compare (g : C_log_Compare) : Same (SS_log_Compare (@log_Compare_ g)) (abody (E_log_Compare g) Tryz.f58 code_58 3 [] [.asis] g.N) := by intro args; unfold SS_log_Compare; split; exact .inr fun R k => (by kernel_rfl); exact .inl fun R k => rfl
theorem ok_log_Compare [Fuel] : Ok 58 (SS_log_Compare (@log_Compare _)) := okF_of std (.cons ok_strings_Compare (.cons ok_cmp_Or__int (.cons ok_cmp_Compare__int .nil))) ⟨rfl, rfl, by kernel_rfl, rfl, rfl⟩ (sm_log_Compare I_log_Compare) (cuts0 (fun _ => rfl) (by kernel_rfl)) Tryz.func58 (by kernel_rfl) (by kernel_rfl)
abbrev T_log_CheckLog : Type 1 := List G_Contact → {R : Type} → (Int → Option R) → Option R
structure C_log_CheckLog where
  N : Nat
  log_CheckContact : T_log_CheckContact
  log_Compare : T_log_Compare
def log_CheckLog_L4 (g : C_log_CheckLog) : Nat → List G_Contact → List G_Contact → Int → Int → {R : Type} → (Int → Option R) → Option R → Option R
  | 0, _, _, _, _, _, _, _ => none
  | n + 1, v2, v3, v4, v5, _, e0, e1 => (bif (decide (v5 < v4)) then (get_ v3 v5 fun x10 => (g.log_CheckContact x10 (fun r11 => (bif (r11 != 0) then e0 r11 else (bif (decide (v5 > 0)) then (get_ v2 (w64 (v5 - 1)) fun x12 => (g.log_Compare x12 x10 (fun r13 => (bif (decide (r13 ≥ 0)) then e0 7 else log_CheckLog_L4 g n v2 v3 v4 (w64 (v5 + 1)) e0 e1)))) else log_CheckLog_L4 g n v2 v3 v4 (w64 (v5 + 1)) e0 e1))))) else e1)
def log_CheckLog_ (g : C_log_CheckLog) (a1 : List G_Contact) {R : Type} (k0 : Int → Option R) : Option R :=
  (bif (decide ((a1.length : Int) > 2000)) then k0 2 else (log_CheckLog_L4 g g.N a1 a1 (a1.length : Int) 0 (fun e14 => k0 e14) (k0 0)))
def I_log_CheckLog [Fuel] : C_log_CheckLog := ⟨NN, @log_CheckContact _, @log_Compare _⟩
def log_CheckLog [Fuel] : T_log_CheckLog := @log_CheckLog_ I_log_CheckLog
def SS_log_CheckLog (g : T_log_CheckLog) : Spec A := fun args => match args with | [.d (.sl 58 a1)] => fun k => g a1 (fun z0 => k (.d (.int .i64 z0)) [.undef]) | _ => fun _ => none
def sh_log_CheckLog_L4 : SSt := mkSh 34 1 [(0, .sl 58), (9, .sl 58), (10, .int .i64), (11, .int .i64)] []
def LP_log_CheckLog_L4 (g : C_log_CheckLog) (n : Nat) : LPT A := fun ps => match ps with | [.d (.sl 58 p1), .d (.sl 58 p2), .d (.int .i64 p3), .d (.int .i64 p4)] => fun K => log_CheckLog_L4 g n p1 p2 p3 p4 (fun z0 => K .ret (mkSt 34 1 [(2, .d (.int .i64 z0))] [])) (K (.exit 0) (mkSt 34 1 [] [])) | _ => fun _ => none
noncomputable def code_37 : Code := (Tryz.f37.body).getD .skip
noncomputable def E_log_CheckLog (g : C_log_CheckLog) : Env A := mkE [(35, SS_log_CheckContact g.log_CheckContact), (58, SS_log_Compare g.log_Compare)] [(4, [0])] [(4, ⟨[0, 9, 10, 11], [], [], []⟩)] [(4, ⟨[2], [], [], []⟩)] [(4, pieceOf sh_log_CheckLog_L4 (LP_log_CheckLog_L4 g g.N))] [] [] [] [] []
theorem ct_log_CheckLog [Fuel] : NatTab (E_log_CheckLog I_log_CheckLog).C := ct_of (P := Tryz.prog) (T := T) (.cons ok_log_CheckContact (.cons ok_log_Compare .nil)) (by kernel_rfl)
noncomputable def cb_log_CheckLog_L4 : Code := sub [1, 1, 0, 1, 0, 0] code_37
theorem s_log_CheckLog_L4 (g : C_log_CheckLog) (n : Nat) : StepOk (E_log_CheckLog g) g.N cb_log_CheckLog_L4 sh_log_CheckLog_L4 (LP_log_CheckLog_L4 g) n := by intro ps; unfold LP_log_CheckLog_L4; split; exact .inr fun R K => (by kernel_rfl); exact .inl fun R K => rfl
theorem lf_log_CheckLog_L4 [Fuel] : LoopFine (E_log_CheckLog I_log_CheckLog) NN cb_log_CheckLog_L4 := fine_loop sh_log_CheckLog_L4 (LP_log_CheckLog_L4 I_log_CheckLog) (by kernel_rfl) ct_log_CheckLog (cuts0 (fun _ => rfl) (by kernel_rfl)) (fun ps R K => by unfold LP_log_CheckLog_L4; split <;> (try unfold log_CheckLog_L4) <;> rfl) (s_log_CheckLog_L4 I_log_CheckLog)
theorem sm_log_CheckLog (g : C_log_CheckLog) : Same (SS_log_CheckLog (@log_CheckLog_ g)) (abody (E_log_CheckLog g) Tryz.f37 code_37 1 [] [.asis] g.N) := by intro args; unfold SS_log_CheckLog; split; exact .inr fun R k => (by kernel_rfl); exact .inl fun R k => rfl
theorem ok_log_CheckLog [Fuel] : Ok 37 (SS_log_CheckLog (@log_CheckLog _)) := okF_of std (.cons ok_log_CheckContact (.cons ok_log_Compare .nil)) ⟨rfl, rfl, by kernel_rfl, rfl, rfl⟩ (sm_log_CheckLog I_log_CheckLog) (cutsL (fun _ => rfl) (.cons lf_log_CheckLog_L4 .nil) (by kernel_rfl)) Tryz.func37 (by kernel_rfl) (by kernel_rfl)
abbrev T_log_checkBoth : Type 1 := List G_Contact → List G_Contact → {R : Type} → (Int → Option R) → Option R
structure C_log_checkBoth where
  N : Nat
  log_CheckLog : T_log_CheckLog
def log_checkBoth_ (g : C_log_checkBoth) (a1 a2 : List G_Contact) {R : Type} (k0 : Int → Option R) : Option R :=
  (g.log_CheckLog a1 (fun r3 => (bif (r3 != 0) then k0 r3 else (g.log_CheckLog a2 (fun r4 => k0 r4)))))
def I_log_checkBoth [Fuel] : C_log_checkBoth := ⟨NN, @log_CheckLog _⟩
def log_checkBoth [Fuel] : T_log_checkBoth := @log_checkBoth_ I_log_checkBoth
def SS_log_checkBoth (g : T_log_checkBoth) : Spec A := fun args => match args with | [.d (.sl 58 a1), .d (.sl 58 a2)] => fun k => g a1 a2 (fun z0 => k (.d (.int .i64 z0)) [.undef, .undef]) | _ => fun _ => none
noncomputable def code_56 : Code := (Tryz.f56.body).getD .skip
noncomputable def E_log_checkBoth (g : C_log_checkBoth) : Env A := mkE [(37, SS_log_CheckLog g.log_CheckLog)] [] [] [] [] [] [] [] [] []
theorem sm_log_checkBoth (g : C_log_checkBoth) : Same (SS_log_checkBoth (@log_checkBoth_ g)) (abody (E_log_checkBoth g) Tryz.f56 code_56 0 [] [.asis] g.N) := by intro args; unfold SS_log_checkBoth; split; exact .inr fun R k => (by kernel_rfl); exact .inl fun R k => rfl
theorem ok_log_checkBoth [Fuel] : Ok 56 (SS_log_checkBoth (@log_checkBoth _)) := okF_of std (.cons ok_log_CheckLog .nil) ⟨rfl, rfl, by kernel_rfl, rfl, rfl⟩ (sm_log_checkBoth I_log_checkBoth) (cuts0 (fun _ => rfl) (by kernel_rfl)) Tryz.func56 (by kernel_rfl) (by kernel_rfl)
abbrev T_slices_Grow__Contact_n0 : Type 1 := Int → {R : Type} → (List G_Contact → Option R) → Option R
def slices_Grow__Contact_n0 [Fuel] : T_slices_Grow__Contact_n0 := @X_grow G_Contact 96
def SS_slices_Grow__Contact_n0 (g : T_slices_Grow__Contact_n0) : Spec A := fun args => match args with | [.d .nsl, .d (.int .i64 x1)] => fun k => g x1 (fun z => k (.arr 58 z) [.undef, .undef]) | _ => fun _ => none
theorem h1_slices_Grow__Contact_n0 [Fuel] (xs : Int) (R : Type) (k : IV A → List (IV A) → Option R) : SS_slices_Grow__Contact_n0 (@slices_Grow__Contact_n0 _) [.d .nsl, .d (.int .i64 xs)] k = X_grow (α := A 58) 96 xs (fun z => k (.arr 58 z) [.undef, .undef]) := by kernel_rfl
theorem h2_slices_Grow__Contact_n0 [Fuel] (args : List (IV A)) (R : Type) (k : IV A → List (IV A) → Option R) (h : ∀ xs : Int, args ≠ [.d .nsl, .d (.int .i64 xs)]) : SS_slices_Grow__Contact_n0 (@slices_Grow__Contact_n0 _) args k = none := by unfold SS_slices_Grow__Contact_n0; split; exact absurd rfl (h _); rfl
theorem ok_slices_Grow__Contact_n0 [Fuel] : Ok 78 (SS_slices_Grow__Contact_n0 (@slices_Grow__Contact_n0 _)) := ⟨grow_fs (grow_sound (tyOk Tryz.prog) (e := 58) (size := 8) (bytes := 96) (ty := 58) (by kernel_rfl) (fun w => grow_0 Tryz.grow78 w) (fun n w hn hb hm => grow_h Tryz.grow78 Tryz.ti58 Tryz.zv58 (by kernel_rfl) (by kernel_rfl) 8 96 (by kernel_rfl) (by kernel_rfl) (by decide) (by kernel_rfl) n w hn hb hm)) h1_slices_Grow__Contact_n0 h2_slices_Grow__Contact_n0, grow_na h1_slices_Grow__Contact_n0 h2_slices_Grow__Contact_n0, enters_of (fn := Tryz.f78) Tryz.func78 (by kernel_rfl) (by kernel_rfl)⟩
end Go.Am
