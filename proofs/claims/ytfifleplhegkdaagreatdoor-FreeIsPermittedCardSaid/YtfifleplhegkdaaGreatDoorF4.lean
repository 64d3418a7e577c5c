/- The functions of the program as Lean functions, each shown to be what the code computes, part 4. No condition: lemmas for the claim. -/
import Derived.Test.YtfifleplhegkdaaGreatDoorF0
import Derived.Test.YtfifleplhegkdaaGreatDoorFSh
import Derived.Test.YtfifleplhegkdaaGreatDoorF1
import Derived.Test.YtfifleplhegkdaaGreatDoorF3
set_option linter.unusedVariables false
set_option maxRecDepth 100000
namespace Go.Am
open Go Go.Proofs
abbrev T_utf8_DecodeLastRuneInString : Type 1 := List UInt8 → {R : Type} → (Int → Int → Option R) → Option R
structure C_utf8_DecodeLastRuneInString where
 N : Nat
 utf8_DecodeRuneInString : T_utf8_DecodeRuneInString
 utf8_RuneStart : T_utf8_RuneStart
def utf8_DecodeLastRuneInString_L10 (g : C_utf8_DecodeLastRuneInString) : Nat → List UInt8 → Int → Int → Int → {R : Type} → (List UInt8 → Int → Int → Option R) → Option R
 | 0, _, _, _, _, _, _ => none
 | n + 1, v3, v4, v5, v6, _, e0 => (bif (decide (v5 ≥ v6)) then (get_ v3 v5 fun x8 => (g.utf8_RuneStart (x8.toNat : Int))) else e0 v3 v4 v5)
def utf8_DecodeLastRuneInString_ (g : C_utf8_DecodeLastRuneInString) (a1 : List UInt8) {R : Type} (k0 : Int → Int → Option R) : Option R :=
 (bif ((a1.length : Int) == 0) then k0 65533 0 else (get_ a1 (w64 ((a1.length : Int) - 1)) fun x2 => (bif (decide ((IntKind.i32.wrap (x2.toNat : Int)) < 128)) then k0 (IntKind.i32.wrap (x2.toNat : Int)) 1 else (utf8_DecodeLastRuneInString_L10 g g.N a1 (a1.length : Int) (w64 ((w64 ((a1.length : Int) - 1)) - 1)) (if 0 > (w64 ((a1.length : Int) - 4)) then 0 else (w64 ((a1.length : Int) - 4))) (fun e9 e10 e11 => (bif (decide (e11 < 0)) then (bif (decide (0 ≤ 0) && (decide (0 ≤ e10) && decide (e10 ≤ (e9.length : Int)))) then (g.utf8_DecodeRuneInString ((e9.take (e10 : Int).toNat).drop (0 : Int).toNat) (fun r12 r13 => (bif ((w64 (0 + r13)) != e10) then k0 65533 1 else k0 r12 r13))) else none) else (bif (decide (0 ≤ e11) && (decide (e11 ≤ e10) && decide (e10 ≤ (e9.length : Int)))) then (g.utf8_DecodeRuneInString ((e9.take (e10 : Int).toNat).drop (e11 : Int).toNat) (fun r14 r15 => (bif ((w64 (e11 + r15)) != e10) then k0 65533 1 else k0 r14 r15))) else none)))))))
noncomputable def I_utf8_DecodeLastRuneInString [Fuel] : C_utf8_DecodeLastRuneInString := ⟨NN, @utf8_DecodeRuneInString _, @utf8_RuneStart _⟩
noncomputable def utf8_DecodeLastRuneInString [Fuel] : T_utf8_DecodeLastRuneInString := @utf8_DecodeLastRuneInString_ I_utf8_DecodeLastRuneInString
def SS_utf8_DecodeLastRuneInString (g : T_utf8_DecodeLastRuneInString) : Spec A := fun args => match args with | [.d (.str a1)] => fun k => g a1 (fun z0 z1 => k (.tup [.d (.int .i32 z0), .d (.int .i64 z1)]) [.undef]) | _ => fun _ => none
def sh_utf8_DecodeLastRuneInString_L10 : SSt := mkSh 51 0 [(0, .str), (4, .int .i64), (5, .int .i64), (6, .int .i64)] []
def LP_utf8_DecodeLastRuneInString_L10 (g : C_utf8_DecodeLastRuneInString) (n : Nat) : LPT A := fun ps => match ps with | [.d (.str p1), .d (.int .i64 p2), .d (.int .i64 p3), .d (.int .i64 p4)] => fun K => utf8_DecodeLastRuneInString_L10 g n p1 p2 p3 p4 (fun z0 z1 z2 => K (.exit 0) (mkSt 51 0 [(0, .d (.str z0)), (4, .d (.int .i64 z1)), (5, .d (.int .i64 z2))] [])) | _ => fun _ => none
noncomputable def code_144 : Code := (Tryz.f144.body).getD .skip
noncomputable def E_utf8_DecodeLastRuneInString (g : C_utf8_DecodeLastRuneInString) : Env A := mkE [(142, SS_utf8_DecodeRuneInString g.utf8_DecodeRuneInString), (184, SS_utf8_RuneStart g.utf8_RuneStart)] [] [(10, ⟨[0, 4, 5, 6], [], [], []⟩)] [(10, ⟨[0, 4, 5], [], [], []⟩)] [(10, pieceOf sh_utf8_DecodeLastRuneInString_L10 (LP_utf8_DecodeLastRuneInString_L10 g g.N))] [] [] [] [] []
theorem ct_utf8_DecodeLastRuneInString [Fuel] : NatTab (E_utf8_DecodeLastRuneInString I_utf8_DecodeLastRuneInString).C := ct_of (P := Tryz.prog) (T := T) (.cons ok_utf8_DecodeRuneInString (.cons ok_utf8_RuneStart .nil)) (by kernel_rfl)
noncomputable def cb_utf8_DecodeLastRuneInString_L10 : Code := sub [1, 1, 1, 1, 1, 1, 1, 0, 1, 0, 0] code_144
theorem s_utf8_DecodeLastRuneInString_L10 (g : C_utf8_DecodeLastRuneInString) (n : Nat) : StepOk (E_utf8_DecodeLastRuneInString g) g.N cb_utf8_DecodeLastRuneInString_L10 sh_utf8_DecodeLastRuneInString_L10 (LP_utf8_DecodeLastRuneInString_L10 g) n := by intro ps; unfold LP_utf8_DecodeLastRuneInString_L10; split; exact .inr fun R K => (by kernel_rfl); exact .inl fun R K => rfl
theorem lf_utf8_DecodeLastRuneInString_L10 [Fuel] : LoopFine (E_utf8_DecodeLastRuneInString I_utf8_DecodeLastRuneInString) NN cb_utf8_DecodeLastRuneInString_L10 := fine_loop sh_utf8_DecodeLastRuneInString_L10 (LP_utf8_DecodeLastRuneInString_L10 I_utf8_DecodeLastRuneInString) (by kernel_rfl) ct_utf8_DecodeLastRuneInString (cuts0 (fun _ => rfl) (by kernel_rfl)) (fun ps R K => by unfold LP_utf8_DecodeLastRuneInString_L10; split <;> (try unfold utf8_DecodeLastRuneInString_L10) <;> rfl) (s_utf8_DecodeLastRuneInString_L10 I_utf8_DecodeLastRuneInString)
theorem sm_utf8_DecodeLastRuneInString (g : C_utf8_DecodeLastRuneInString) : Same (SS_utf8_DecodeLastRuneInString (@utf8_DecodeLastRuneInString_ g)) (abody (E_utf8_DecodeLastRuneInString g) Tryz.f144 code_144 0 [] [.asis, .asis] g.N) := by intro args; unfold SS_utf8_DecodeLastRuneInString; split; exact .inr fun R k => (by kernel_rfl); exact .inl fun R k => rfl
theorem ok_utf8_DecodeLastRuneInString [Fuel] : Ok 144 (SS_utf8_DecodeLastRuneInString (@utf8_DecodeLastRuneInString _)) := okF_of std (.cons ok_utf8_DecodeRuneInString (.cons ok_utf8_RuneStart .nil)) ⟨rfl, rfl, by kernel_rfl, rfl, rfl, rfl⟩ (sm_utf8_DecodeLastRuneInString I_utf8_DecodeLastRuneInString) (cutsL (fun _ => rfl) (.cons lf_utf8_DecodeLastRuneInString_L10 .nil) (by kernel_rfl)) Tryz.func144 (by kernel_rfl) (by kernel_rfl)
abbrev T_strings_LastIndexAny : Type 1 := List UInt8 → List UInt8 → {R : Type} → (Int → Option R) → Option R
structure C_strings_LastIndexAny where
 N : Nat
 strings_makeASCIISet : T_strings_makeASCIISet
 utf8_DecodeLastRuneInString : T_utf8_DecodeLastRuneInString
 strings_IndexRune : T_strings_IndexRune
 strings_shouldUseASCIISet : T_strings_shouldUseASCIISet
def strings_LastIndexAny_L24 (g : C_strings_LastIndexAny) : Nat → List UInt8 → Int → Int → {R : Type} → (Int → Option R) → Option R → Option R
 | 0, _, _, _, _, _, _ => none
 | n + 1, v8, v9, v10, _, e0, e1 => (bif (decide (v10 > 0)) then (bif (decide (0 ≤ v10) && decide (v10 ≤ (v8.length : Int))) then (g.utf8_DecodeLastRuneInString (v8.take (v10 : Int).toNat) (fun r13 r14 => (bif (v9 == r13) then e0 (w64 (v10 - r14)) else strings_LastIndexAny_L24 g n v8 v9 (w64 (v10 - r14)) e0 e1))) else none) else e1)
def strings_LastIndexAny_L31 (g : C_strings_LastIndexAny) : Nat → List UInt8 → List UInt8 → Int → {R : Type} → (Int → Option R) → Option R → Option R
 | 0, _, _, _, _, _, _ => none
 | n + 1, v17, v18, v19, _, e0, e1 => (bif (decide (v19 > 0)) then (bif (decide (0 ≤ v19) && decide (v19 ≤ (v17.length : Int))) then (g.utf8_DecodeLastRuneInString (v17.take (v19 : Int).toNat) (fun r23 r24 => (g.strings_IndexRune v18 r23 (fun r25 => (bif (decide (r25 ≥ 0)) then e0 (w64 (v19 - r24)) else strings_LastIndexAny_L31 g n v17 v18 (w64 (v19 - r24)) e0 e1))))) else none) else e1)
def strings_LastIndexAny_ (g : C_strings_LastIndexAny) (a1 a2 : List UInt8) {R : Type} (k0 : Int → Option R) : Option R :=
 (bif (a2 == []) then k0 (-1) else (bif ((a1.length : Int) == 1) then (at_ a1 0 fun x3 => (bif (decide ((IntKind.i32.wrap (x3.toNat : Int)) ≥ 128)) then (g.strings_IndexRune a2 65533 (fun r4 => (bif (decide (r4 ≥ 0)) then k0 0 else k0 (-1)))) else (g.strings_IndexRune a2 (IntKind.i32.wrap (x3.toNat : Int)) (fun r5 => (bif (decide (r5 ≥ 0)) then k0 0 else k0 (-1)))))) else (g.strings_shouldUseASCIISet (a1.length : Int) (fun r6 => (bif r6 then (g.strings_makeASCIISet a2) else (bif ((a2.length : Int) == 1) then (at_ a2 0 fun x7 => (bif (decide ((IntKind.i32.wrap (x7.toNat : Int)) ≥ 128)) then (strings_LastIndexAny_L24 g g.N a1 65533 (a1.length : Int) (fun e15 => k0 e15) (k0 (-1))) else (strings_LastIndexAny_L24 g g.N a1 (IntKind.i32.wrap (x7.toNat : Int)) (a1.length : Int) (fun e16 => k0 e16) (k0 (-1))))) else (strings_LastIndexAny_L31 g g.N a1 a2 (a1.length : Int) (fun e26 => k0 e26) (k0 (-1)))))))))
noncomputable def I_strings_LastIndexAny [Fuel] : C_strings_LastIndexAny := ⟨NN, @strings_makeASCIISet _, @utf8_DecodeLastRuneInString _, @strings_IndexRune _, @strings_shouldUseASCIISet _⟩
noncomputable def strings_LastIndexAny [Fuel] : T_strings_LastIndexAny := @strings_LastIndexAny_ I_strings_LastIndexAny
def SS_strings_LastIndexAny (g : T_strings_LastIndexAny) : Spec A := fun args => match args with | [.d (.str a1), .d (.str a2)] => fun k => g a1 a2 (fun z0 => k (.d (.int .i64 z0)) [.undef, .undef]) | _ => fun _ => none
def sh_strings_LastIndexAny_L24 : SSt := mkSh 96 0 [(0, .str), (9, .int .i32), (10, .int .i64)] []
def LP_strings_LastIndexAny_L24 (g : C_strings_LastIndexAny) (n : Nat) : LPT A := fun ps => match ps with | [.d (.str p1), .d (.int .i32 p2), .d (.int .i64 p3)] => fun K => strings_LastIndexAny_L24 g n p1 p2 p3 (fun z0 => K .ret (mkSt 96 0 [(4, .d (.int .i64 z0))] [])) (K (.exit 2) (mkSt 96 0 [] [])) | _ => fun _ => none
def sh_strings_LastIndexAny_L31 : SSt := mkSh 96 0 [(0, .str), (1, .str), (13, .int .i64)] []
def LP_strings_LastIndexAny_L31 (g : C_strings_LastIndexAny) (n : Nat) : LPT A := fun ps => match ps with | [.d (.str p1), .d (.str p2), .d (.int .i64 p3)] => fun K => strings_LastIndexAny_L31 g n p1 p2 p3 (fun z0 => K .ret (mkSt 96 0 [(4, .d (.int .i64 z0))] [])) (K (.exit 4) (mkSt 96 0 [] [])) | _ => fun _ => none
noncomputable def code_187 : Code := (Tryz.f187.body).getD .skip
noncomputable def E_strings_LastIndexAny (g : C_strings_LastIndexAny) : Env A := mkE [(110, SS_strings_makeASCIISet g.strings_makeASCIISet), (144, SS_utf8_DecodeLastRuneInString g.utf8_DecodeLastRuneInString), (183, SS_strings_IndexRune g.strings_IndexRune), (210, SS_strings_shouldUseASCIISet g.strings_shouldUseASCIISet)] [] [(24, ⟨[0, 9, 10], [], [], []⟩), (31, ⟨[0, 1, 13], [], [], []⟩)] [(24, ⟨[4], [], [], []⟩), (31, ⟨[4], [], [], []⟩)] [(24, pieceOf sh_strings_LastIndexAny_L24 (LP_strings_LastIndexAny_L24 g g.N)), (31, pieceOf sh_strings_LastIndexAny_L31 (LP_strings_LastIndexAny_L31 g g.N))] [] [] [] [] []
theorem ct_strings_LastIndexAny [Fuel] : NatTab (E_strings_LastIndexAny I_strings_LastIndexAny).C := ct_of (P := Tryz.prog) (T := T) (.cons ok_strings_makeASCIISet (.cons ok_utf8_DecodeLastRuneInString (.cons ok_strings_IndexRune (.cons ok_strings_shouldUseASCIISet .nil)))) (by kernel_rfl)
noncomputable def cb_strings_LastIndexAny_L14 : Code := sub [1, 1, 1, 0, 1, 0, 1, 1, 0, 0, 1, 0, 0] code_187
theorem lf_strings_LastIndexAny_L14 [Fuel] : LoopFine (E_strings_LastIndexAny I_strings_LastIndexAny) NN cb_strings_LastIndexAny_L14 := no_loop (by kernel_rfl)
noncomputable def cb_strings_LastIndexAny_L24 : Code := sub [1, 1, 1, 1, 0, 1, 0, 1, 1, 0, 1, 0, 0] code_187
theorem s_strings_LastIndexAny_L24 (g : C_strings_LastIndexAny) (n : Nat) : StepOk (E_strings_LastIndexAny g) g.N cb_strings_LastIndexAny_L24 sh_strings_LastIndexAny_L24 (LP_strings_LastIndexAny_L24 g) n := by intro ps; unfold LP_strings_LastIndexAny_L24; split; exact .inr fun R K => (by kernel_rfl); exact .inl fun R K => rfl
theorem lf_strings_LastIndexAny_L24 [Fuel] : LoopFine (E_strings_LastIndexAny I_strings_LastIndexAny) NN cb_strings_LastIndexAny_L24 := fine_loop sh_strings_LastIndexAny_L24 (LP_strings_LastIndexAny_L24 I_strings_LastIndexAny) (by kernel_rfl) ct_strings_LastIndexAny (cuts0 (fun _ => rfl) (by kernel_rfl)) (fun ps R K => by unfold LP_strings_LastIndexAny_L24; split <;> (try unfold strings_LastIndexAny_L24) <;> rfl) (s_strings_LastIndexAny_L24 I_strings_LastIndexAny)
noncomputable def cb_strings_LastIndexAny_L31 : Code := sub [1, 1, 1, 1, 1, 0, 1, 0, 0] code_187
theorem s_strings_LastIndexAny_L31 (g : C_strings_LastIndexAny) (n : Nat) : StepOk (E_strings_LastIndexAny g) g.N cb_strings_LastIndexAny_L31 sh_strings_LastIndexAny_L31 (LP_strings_LastIndexAny_L31 g) n := by intro ps; unfold LP_strings_LastIndexAny_L31; split; exact .inr fun R K => (by kernel_rfl); exact .inl fun R K => rfl
theorem lf_strings_LastIndexAny_L31 [Fuel] : LoopFine (E_strings_LastIndexAny I_strings_LastIndexAny) NN cb_strings_LastIndexAny_L31 := fine_loop sh_strings_LastIndexAny_L31 (LP_strings_LastIndexAny_L31 I_strings_LastIndexAny) (by kernel_rfl) ct_strings_LastIndexAny (cuts0 (fun _ => rfl) (by kernel_rfl)) (fun ps R K => by unfold LP_strings_LastIndexAny_L31; split <;> (try unfold strings_LastIndexAny_L31) <;> rfl) (s_strings_LastIndexAny_L31 I_strings_LastIndexAny)
theorem sm_strings_LastIndexAny (g : C_strings_LastIndexAny) : Same (SS_strings_LastIndexAny (@strings_LastIndexAny_ g)) (abody (E_strings_LastIndexAny g) Tryz.f187 code_187 0 [] [.asis] g.N) := by intro args; unfold SS_strings_LastIndexAny; split; exact .inr fun R k => (by kernel_rfl); exact .inl fun R k => rfl
theorem ok_strings_LastIndexAny [Fuel] : Ok 187 (SS_strings_LastIndexAny (@strings_LastIndexAny _)) := okF_of std (.cons ok_strings_makeASCIISet (.cons ok_utf8_DecodeLastRuneInString (.cons ok_strings_IndexRune (.cons ok_strings_shouldUseASCIISet .nil)))) ⟨rfl, rfl, by kernel_rfl, rfl, rfl, rfl⟩ (sm_strings_LastIndexAny I_strings_LastIndexAny) (cutsL (fun _ => rfl) (.cons lf_strings_LastIndexAny_L14 (.cons lf_strings_LastIndexAny_L24 (.cons lf_strings_LastIndexAny_L31 .nil))) (by kernel_rfl)) Tryz.func187 (by kernel_rfl) (by kernel_rfl)
abbrev T_call_split : Type 1 := List UInt8 → {R : Type} → (Int → Bool → Option R) → Option R
structure C_call_split where
 N : Nat
 strings_LastIndexAny : T_strings_LastIndexAny
 call_isPlain : T_call_isPlain
def call_split_ (g : C_call_split) (a1 : List UInt8) {R : Type} (k0 : Int → Bool → Option R) : Option R :=
 (g.call_isPlain a1 (fun r2 r3 => (bif (!r3) then k0 0 false else (bif (decide ((a1.length : Int) > 10)) then k0 0 false else (g.strings_LastIndexAny a1 [48, 49, 50, 51, 52, 53, 54, 55, 56, 57] (fun r4 => (bif (decide (r4 < 1)) then k0 0 false else (bif (decide (r4 > 3)) then k0 0 false else (bif (decide ((w64 ((w64 ((a1.length : Int) - r4)) - 1)) < 1)) then k0 0 false else (bif (decide ((w64 ((w64 ((a1.length : Int) - r4)) - 1)) > 4)) then k0 0 false else (bif (decide (0 ≤ r4) && decide (r4 ≤ (a1.length : Int))) then (g.call_isPlain (a1.take (r4 : Int).toNat) (fun r5 r6 => k0 r4 (decide (r5 > 0)))) else none)))))))))))
noncomputable def I_call_split [Fuel] : C_call_split := ⟨NN, @strings_LastIndexAny _, @call_isPlain _⟩
noncomputable def call_split [Fuel] : T_call_split := @call_split_ I_call_split
def SS_call_split (g : T_call_split) : Spec A := fun args => match args with | [.d (.str a1)] => fun k => g a1 (fun z0 z1 => k (.tup [.d (.int .i64 z0), .d (.bool z1)]) [.undef]) | _ => fun _ => none
noncomputable def code_193 : Code := (Tryz.f193.body).getD .skip
noncomputable def E_call_split (g : C_call_split) : Env A := mkE [(187, SS_strings_LastIndexAny g.strings_LastIndexAny), (194, SS_call_isPlain g.call_isPlain)] [] [] [] [] [] [] [] [] []
theorem sm_call_split (g : C_call_split) : Same (SS_call_split (@call_split_ g)) (abody (E_call_split g) Tryz.f193 code_193 0 [] [.asis, .asis] g.N) := by intro args; unfold SS_call_split; split; exact .inr fun R k => (by kernel_rfl); exact .inl fun R k => rfl
theorem ok_call_split [Fuel] : Ok 193 (SS_call_split (@call_split _)) := okF_of std (.cons ok_strings_LastIndexAny (.cons ok_call_isPlain .nil)) ⟨rfl, rfl, by kernel_rfl, rfl, rfl, rfl⟩ (sm_call_split I_call_split) (cuts0 (fun _ => rfl) (by kernel_rfl)) Tryz.func193 (by kernel_rfl) (by kernel_rfl)
abbrev T_call_based : Type 1 := List UInt8 → {R : Type} → (G_Parts → Bool → Option R) → Option R
structure C_call_based where
 N : Nat
 call_split : T_call_split
def call_based_ (g : C_call_based) (a1 : List UInt8) {R : Type} (k0 : G_Parts → Bool → Option R) : Option R :=
 (g.call_split a1 (fun r2 r3 => (bif (!r3) then k0 (⟨[], [], [], 0, []⟩ : G_Parts) false else (bif (decide (0 ≤ (w64 (r2 + 1))) && decide ((w64 (r2 + 1)) ≤ (a1.length : Int))) then (bif (decide (0 ≤ (w64 (r2 + 1))) && decide ((w64 (r2 + 1)) ≤ (a1.length : Int))) then k0 (⟨a1, (a1.take ((w64 (r2 + 1)) : Int).toNat), (a1.drop ((w64 (r2 + 1)) : Int).toNat), 0, []⟩ : G_Parts) true else none) else none))))
noncomputable def I_call_based [Fuel] : C_call_based := ⟨NN, @call_split _⟩
noncomputable def call_based [Fuel] : T_call_based := @call_based_ I_call_based
def SS_call_based (g : T_call_based) : Spec A := fun args => match args with | [.d (.str a1)] => fun k => g a1 (fun z0 z1 => k (.tup [.agg [.d (.str z0.f_Base), .d (.str z0.f_Prefix), .d (.str z0.f_Suffix), .d (.int .i64 z0.f_Kind), .d (.str z0.f_Added)], .d (.bool z1)]) [.undef]) | _ => fun _ => none
noncomputable def code_159 : Code := (Tryz.f159.body).getD .skip
noncomputable def E_call_based (g : C_call_based) : Env A := mkE [(193, SS_call_split g.call_split)] [(2, [0])] [] [] [] [] [] [] [] []
theorem sm_call_based (g : C_call_based) : Same (SS_call_based (@call_based_ g)) (abody (E_call_based g) Tryz.f159 code_159 1 [] [.asis, .asis] g.N) := by intro args; unfold SS_call_based; split; exact .inr fun R k => (by kernel_rfl); exact .inl fun R k => rfl
theorem ok_call_based [Fuel] : Ok 159 (SS_call_based (@call_based _)) := okF_of std (.cons ok_call_split .nil) ⟨rfl, rfl, by kernel_rfl, rfl, rfl, rfl⟩ (sm_call_based I_call_based) (cuts0 (fun _ => rfl) (by kernel_rfl)) Tryz.func159 (by kernel_rfl) (by kernel_rfl)
abbrev T_stringslite_Index : Type 1 := List UInt8 → List UInt8 → {R : Type} → (Int → Option R) → Option R
def stringslite_Index [Fuel] : T_stringslite_Index := @X_ix1
def SS_stringslite_Index (g : T_stringslite_Index) : Spec A := SSX_ix1 g
theorem ok_stringslite_Index [Fuel] : Ok 209 (SS_stringslite_Index (@stringslite_Index _)) := ⟨ssx_ix1_sound (ix1_sound (Any.stringslite_Index_one Tryz.lays219)), ssx_ix1_nat, enters_of (fn := Tryz.f209) Tryz.func209 (by kernel_rfl) (by kernel_rfl)⟩
abbrev T_stringslite_Cut : Type 1 := List UInt8 → List UInt8 → {R : Type} → (List UInt8 → List UInt8 → Bool → Option R) → Option R
structure C_stringslite_Cut where
 N : Nat
 stringslite_Index : T_stringslite_Index
def stringslite_Cut_ (g : C_stringslite_Cut) (a1 a2 : List UInt8) {R : Type} (k0 : List UInt8 → List UInt8 → Bool → Option R) : Option R :=
 (g.stringslite_Index a1 a2 (fun r3 => (bif (decide (r3 ≥ 0)) then (bif (decide (0 ≤ r3) && decide (r3 ≤ (a1.length : Int))) then (bif (decide (0 ≤ (w64 (r3 + (a2.length : Int)))) && decide ((w64 (r3 + (a2.length : Int))) ≤ (a1.length : Int))) then k0 (a1.take (r3 : Int).toNat) (a1.drop ((w64 (r3 + (a2.length : Int))) : Int).toNat) true else none) else none) else k0 a1 [] false)))
noncomputable def I_stringslite_Cut [Fuel] : C_stringslite_Cut := ⟨NN, @stringslite_Index _⟩
noncomputable def stringslite_Cut [Fuel] : T_stringslite_Cut := @stringslite_Cut_ I_stringslite_Cut
def SS_stringslite_Cut (g : T_stringslite_Cut) : Spec A := fun args => match args with | [.d (.str a1), .d (.str a2)] => fun k => g a1 a2 (fun z0 z1 z2 => k (.tup [.d (.str z0), .d (.str z1), .d (.bool z2)]) [.undef, .undef]) | _ => fun _ => none
noncomputable def code_186 : Code := (Tryz.f186.body).getD .skip
noncomputable def E_stringslite_Cut (g : C_stringslite_Cut) : Env A := mkE [(209, SS_stringslite_Index g.stringslite_Index)] [] [] [] [] [] [] [] [] []
theorem sm_stringslite_Cut (g : C_stringslite_Cut) : Same (SS_stringslite_Cut (@stringslite_Cut_ g)) (abody (E_stringslite_Cut g) Tryz.f186 code_186 0 [] [.asis, .asis, .asis] g.N) := by intro args; unfold SS_stringslite_Cut; split; exact .inr fun R k => (by kernel_rfl); exact .inl fun R k => rfl
theorem ok_stringslite_Cut [Fuel] : Ok 186 (SS_stringslite_Cut (@stringslite_Cut _)) := okF_of std (.cons ok_stringslite_Index .nil) ⟨rfl, rfl, by kernel_rfl, rfl, rfl, rfl⟩ (sm_stringslite_Cut I_stringslite_Cut) (cuts0 (fun _ => rfl) (by kernel_rfl)) Tryz.func186 (by kernel_rfl) (by kernel_rfl)
abbrev T_strings_Cut : Type 1 := List UInt8 → List UInt8 → {R : Type} → (List UInt8 → List UInt8 → Bool → Option R) → Option R
structure C_strings_Cut where
 N : Nat
 stringslite_Cut : T_stringslite_Cut
def strings_Cut_ (g : C_strings_Cut) (a1 a2 : List UInt8) {R : Type} (k0 : List UInt8 → List UInt8 → Bool → Option R) : Option R :=
 (g.stringslite_Cut a1 a2 (fun r3 r4 r5 => k0 r3 r4 r5))
noncomputable def I_strings_Cut [Fuel] : C_strings_Cut := ⟨NN, @stringslite_Cut _⟩
noncomputable def strings_Cut [Fuel] : T_strings_Cut := @strings_Cut_ I_strings_Cut
def SS_strings_Cut (g : T_strings_Cut) : Spec A := fun args => match args with | [.d (.str a1), .d (.str a2)] => fun k => g a1 a2 (fun z0 z1 z2 => k (.tup [.d (.str z0), .d (.str z1), .d (.bool z2)]) [.undef, .undef]) | _ => fun _ => none
noncomputable def code_146 : Code := (Tryz.f146.body).getD .skip
noncomputable def E_strings_Cut (g : C_strings_Cut) : Env A := mkE [(186, SS_stringslite_Cut g.stringslite_Cut)] [] [] [] [] [] [] [] [] []
theorem sm_strings_Cut (g : C_strings_Cut) : Same (SS_strings_Cut (@strings_Cut_ g)) (abody (E_strings_Cut g) Tryz.f146 code_146 0 [] [.asis, .asis, .asis] g.N) := by intro args; unfold SS_strings_Cut; split; exact .inr fun R k => (by kernel_rfl); exact .inl fun R k => rfl
theorem ok_strings_Cut [Fuel] : Ok 146 (SS_strings_Cut (@strings_Cut _)) := okF_of std (.cons ok_stringslite_Cut .nil) ⟨rfl, rfl, by kernel_rfl, rfl, rfl, rfl⟩ (sm_strings_Cut I_strings_Cut) (cuts0 (fun _ => rfl) (by kernel_rfl)) Tryz.func146 (by kernel_rfl) (by kernel_rfl)
abbrev T_call_isBegin : Type 1 := List UInt8 → {R : Type} → (Bool → Option R) → Option R
structure C_call_isBegin where
 N : Nat
 call_isPlain : T_call_isPlain
def call_isBegin_ (g : C_call_isBegin) (a1 : List UInt8) {R : Type} (k0 : Bool → Option R) : Option R :=
 (g.call_isPlain a1 (fun r2 r3 => (bif r3 then (bif (decide (r2 > 0)) then k0 (decide ((a1.length : Int) ≤ 4)) else k0 false) else k0 false)))
noncomputable def I_call_isBegin [Fuel] : C_call_isBegin := ⟨NN, @call_isPlain _⟩
noncomputable def call_isBegin [Fuel] : T_call_isBegin := @call_isBegin_ I_call_isBegin
def SS_call_isBegin (g : T_call_isBegin) : Spec A := fun args => match args with | [.d (.str a1)] => fun k => g a1 (fun z0 => k (.d (.bool z0)) [.undef]) | _ => fun _ => none
noncomputable def code_160 : Code := (Tryz.f160.body).getD .skip
noncomputable def E_call_isBegin (g : C_call_isBegin) : Env A := mkE [(194, SS_call_isPlain g.call_isPlain)] [] [] [] [] [] [] [] [] []
theorem sm_call_isBegin (g : C_call_isBegin) : Same (SS_call_isBegin (@call_isBegin_ g)) (abody (E_call_isBegin g) Tryz.f160 code_160 0 [] [.asis] g.N) := by intro args; unfold SS_call_isBegin; split; exact .inr fun R k => (by kernel_rfl); exact .inl fun R k => rfl
theorem ok_call_isBegin [Fuel] : Ok 160 (SS_call_isBegin (@call_isBegin _)) := okF_of std (.cons ok_call_isPlain .nil) ⟨rfl, rfl, by kernel_rfl, rfl, rfl, rfl⟩ (sm_call_isBegin I_call_isBegin) (cuts0 (fun _ => rfl) (by kernel_rfl)) Tryz.func160 (by kernel_rfl) (by kernel_rfl)
abbrev T_call_tail : Type 1 := List UInt8 → {R : Type} → (Int → List UInt8 → Bool → Option R) → Option R
structure C_call_tail where
 N : Nat
 call_isBegin : T_call_isBegin
 call_isDigit : T_call_isDigit
def call_tail_ (g : C_call_tail) (a1 : List UInt8) {R : Type} (k0 : Int → List UInt8 → Bool → Option R) : Option R :=
 (bif (a1 == [112]) then k0 3 [] true else (bif (a1 == [109]) then k0 4 [] true else (bif (a1 == [109, 109]) then k0 5 [] true else (bif (a1 == [97, 109]) then k0 6 [] true else (bif ((a1.length : Int) == 1) then (at_ a1 0 fun x2 => (g.call_isDigit (x2.toNat : Int) (fun r3 => (bif r3 then k0 2 a1 true else (g.call_isBegin a1 (fun r4 => k0 1 a1 r4)))))) else (g.call_isBegin a1 (fun r5 => k0 1 a1 r5)))))))
noncomputable def I_call_tail [Fuel] : C_call_tail := ⟨NN, @call_isBegin _, @call_isDigit _⟩
noncomputable def call_tail [Fuel] : T_call_tail := @call_tail_ I_call_tail
def SS_call_tail (g : T_call_tail) : Spec A := fun args => match args with | [.d (.str a1)] => fun k => g a1 (fun z0 z1 z2 => k (.tup [.d (.int .i64 z0), .d (.str z1), .d (.bool z2)]) [.undef]) | _ => fun _ => none
noncomputable def code_161 : Code := (Tryz.f161.body).getD .skip
noncomputable def E_call_tail (g : C_call_tail) : Env A := mkE [(160, SS_call_isBegin g.call_isBegin), (195, SS_call_isDigit g.call_isDigit)] [] [] [] [] [] [] [] [] []
theorem sm_call_tail (g : C_call_tail) : Same (SS_call_tail (@call_tail_ g)) (abody (E_call_tail g) Tryz.f161 code_161 0 [] [.asis, .asis, .asis] g.N) := by intro args; unfold SS_call_tail; split; exact .inr fun R k => (by kernel_rfl); exact .inl fun R k => rfl
theorem ok_call_tail [Fuel] : Ok 161 (SS_call_tail (@call_tail _)) := okF_of std (.cons ok_call_isBegin (.cons ok_call_isDigit .nil)) ⟨rfl, rfl, by kernel_rfl, rfl, rfl, rfl⟩ (sm_call_tail I_call_tail) (cuts0 (fun _ => rfl) (by kernel_rfl)) Tryz.func161 (by kernel_rfl) (by kernel_rfl)
abbrev T_call_Parts : Type 1 := List UInt8 → {R : Type} → (G_Parts → Bool → Option R) → Option R
structure C_call_Parts where
 N : Nat
 strings_Cut : T_strings_Cut
 call_based : T_call_based
 call_isBegin : T_call_isBegin
 call_tail : T_call_tail
def call_Parts_ (g : C_call_Parts) (a1 : List UInt8) {R : Type} (k0 : G_Parts → Bool → Option R) : Option R :=
 (bif (decide ((a1.length : Int) > 14)) then k0 (⟨[], [], [], 0, []⟩ : G_Parts) false else (g.call_based a1 (fun r2 r3 => (bif r3 then k0 r2 true else (g.strings_Cut a1 [47] (fun r4 r5 r6 => (bif (!r6) then k0 (⟨[], [], [], 0, []⟩ : G_Parts) false else (g.call_based r5 (fun r7 r8 => (bif r8 then (g.call_isBegin r4 (fun r9 => (bif r9 then k0 (⟨r7.f_Base, r7.f_Prefix, r7.f_Suffix, 1, r4⟩ : G_Parts) true else (g.call_based r4 (fun r10 r11 => (g.call_tail r5 (fun r12 r13 r14 => (bif (!r11) then k0 (⟨[], [], [], 0, []⟩ : G_Parts) false else (bif (!r14) then k0 (⟨[], [], [], 0, []⟩ : G_Parts) false else k0 (⟨r10.f_Base, r10.f_Prefix, r10.f_Suffix, r12, r13⟩ : G_Parts) true))))))))) else (g.call_based r4 (fun r15 r16 => (g.call_tail r5 (fun r17 r18 r19 => (bif (!r16) then k0 (⟨[], [], [], 0, []⟩ : G_Parts) false else (bif (!r19) then k0 (⟨[], [], [], 0, []⟩ : G_Parts) false else k0 (⟨r15.f_Base, r15.f_Prefix, r15.f_Suffix, r17, r18⟩ : G_Parts) true))))))))))))))))
noncomputable def I_call_Parts [Fuel] : C_call_Parts := ⟨NN, @strings_Cut _, @call_based _, @call_isBegin _, @call_tail _⟩
noncomputable def call_Parts [Fuel] : T_call_Parts := @call_Parts_ I_call_Parts
def SS_call_Parts (g : T_call_Parts) : Spec A := fun args => match args with | [.d (.str a1)] => fun k => g a1 (fun z0 z1 => k (.tup [.agg [.d (.str z0.f_Base), .d (.str z0.f_Prefix), .d (.str z0.f_Suffix), .d (.int .i64 z0.f_Kind), .d (.str z0.f_Added)], .d (.bool z1)]) [.undef]) | _ => fun _ => none
noncomputable def code_133 : Code := (Tryz.f133.body).getD .skip
noncomputable def E_call_Parts (g : C_call_Parts) : Env A := mkE [(146, SS_strings_Cut g.strings_Cut), (159, SS_call_based g.call_based), (160, SS_call_isBegin g.call_isBegin), (161, SS_call_tail g.call_tail)] [(2, [0]), (4, [1]), (9, [2]), (11, [3])] [] [] [] [] [] [] [] []
theorem sm_call_Parts (g : C_call_Parts) : Same (SS_call_Parts (@call_Parts_ g)) (abody (E_call_Parts g) Tryz.f133 code_133 4 [] [.asis, .asis] g.N) := by intro args; unfold SS_call_Parts; split; exact .inr fun R k => (by kernel_rfl); exact .inl fun R k => rfl
theorem ok_call_Parts [Fuel] : Ok 133 (SS_call_Parts (@call_Parts _)) := okF_of std (.cons ok_strings_Cut (.cons ok_call_based (.cons ok_call_isBegin (.cons ok_call_tail .nil)))) ⟨rfl, rfl, by kernel_rfl, rfl, rfl, rfl⟩ (sm_call_Parts I_call_Parts) (cuts0 (fun _ => rfl) (by kernel_rfl)) Tryz.func133 (by kernel_rfl) (by kernel_rfl)
abbrev T_call_Is : Type 1 := List UInt8 → {R : Type} → (Bool → Option R) → Option R
structure C_call_Is where
 N : Nat
 call_Parts : T_call_Parts
def call_Is_ (g : C_call_Is) (a1 : List UInt8) {R : Type} (k0 : Bool → Option R) : Option R :=
 (g.call_Parts a1 (fun r2 r3 => k0 r3))
noncomputable def I_call_Is [Fuel] : C_call_Is := ⟨NN, @call_Parts _⟩
noncomputable def call_Is [Fuel] : T_call_Is := @call_Is_ I_call_Is
def SS_call_Is (g : T_call_Is) : Spec A := fun args => match args with | [.d (.str a1)] => fun k => g a1 (fun z0 => k (.d (.bool z0)) [.undef]) | _ => fun _ => none
noncomputable def code_95 : Code := (Tryz.f95.body).getD .skip
noncomputable def E_call_Is (g : C_call_Is) : Env A := mkE [(133, SS_call_Parts g.call_Parts)] [(3, [0])] [] [] [] [] [] [] [] []
theorem sm_call_Is (g : C_call_Is) : Same (SS_call_Is (@call_Is_ g)) (abody (E_call_Is g) Tryz.f95 code_95 1 [] [.asis] g.N) := by intro args; unfold SS_call_Is; split; exact .inr fun R k => (by kernel_rfl); exact .inl fun R k => rfl
theorem ok_call_Is [Fuel] : Ok 95 (SS_call_Is (@call_Is _)) := okF_of std (.cons ok_call_Parts .nil) ⟨rfl, rfl, by kernel_rfl, rfl, rfl, rfl⟩ (sm_call_Is I_call_Is) (cuts0 (fun _ => rfl) (by kernel_rfl)) Tryz.func95 (by kernel_rfl) (by kernel_rfl)
abbrev T_band_compareBusy : Type 1 := G_Busy → G_Busy → {R : Type} → (Int → Option R) → Option R
structure C_band_compareBusy where
 N : Nat
 cmp_Compare__int : T_cmp_Compare__int
 cmp_Or__int : T_cmp_Or__int
 strings_Compare : T_strings_Compare
def band_compareBusy_ (g : C_band_compareBusy) (a1 a2 : G_Busy) {R : Type} (k0 : Int → Option R) : Option R :=
 (g.cmp_Compare__int a1.f_Time.f_From a2.f_Time.f_From (fun r3 => (g.cmp_Compare__int a1.f_Hertz a2.f_Hertz (fun r4 => (g.strings_Compare a1.f_Who a2.f_Who (fun r5 => (g.cmp_Or__int [r3, r4, r5] (fun r6 => k0 r6))))))))
noncomputable def I_band_compareBusy [Fuel] : C_band_compareBusy := ⟨NN, @cmp_Compare__int _, @cmp_Or__int _, @strings_Compare _⟩
noncomputable def band_compareBusy [Fuel] : T_band_compareBusy := @band_compareBusy_ I_band_compareBusy
def SS_band_compareBusy (g : T_band_compareBusy) : Spec A := fun args => match args with | [.agg [.d (.str a1), .d (.int .i64 a2), .d (.int .i64 a3), .d (.int .i64 a4), .d (.int .i64 a5)], .agg [.d (.str a6), .d (.int .i64 a7), .d (.int .i64 a8), .d (.int .i64 a9), .d (.int .i64 a10)]] => fun k => g ⟨a1, a2, a3, ⟨a4, a5⟩⟩ ⟨a6, a7, a8, ⟨a9, a10⟩⟩ (fun z0 => k (.d (.int .i64 z0)) [.undef, .undef]) | _ => fun _ => none
noncomputable def code_96 : Code := (Tryz.f96.body).getD .skip
noncomputable def E_band_compareBusy (g : C_band_compareBusy) : Env A := mkE [(60, SS_cmp_Compare__int g.cmp_Compare__int), (88, SS_cmp_Or__int g.cmp_Or__int), (89, SS_strings_Compare g.strings_Compare)] [(2, [0]), (3, [1]), (22, [2])] [] [] [] [] [] [] [] []
theorem sm_band_compareBusy (g : C_band_compareBusy) : Same (SS_band_compareBusy (@band_compareBusy_ g)) (abody (E_band_compareBusy g) Tryz.f96 code_96 3 [] [.asis] g.N) := by intro args; unfold SS_band_compareBusy; split; exact .inr fun R k => (by kernel_rfl); exact .inl fun R k => rfl
theorem ok_band_compareBusy [Fuel] : Ok 96 (SS_band_compareBusy (@band_compareBusy _)) := okF_of std (.cons ok_cmp_Compare__int (.cons ok_cmp_Or__int (.cons ok_strings_Compare .nil))) ⟨rfl, rfl, by kernel_rfl, rfl, rfl, rfl⟩ (sm_band_compareBusy I_band_compareBusy) (cuts0 (fun _ => rfl) (by kernel_rfl)) Tryz.func96 (by kernel_rfl) (by kernel_rfl)
abbrev T_band_CheckBusy : Type 1 := List G_Busy → {R : Type} → (Int → Option R) → Option R
structure C_band_CheckBusy where
 N : Nat
 kit_Outside : T_kit_Outside
 kit_IsTime : T_kit_IsTime
 call_Is : T_call_Is
 band_compareBusy : T_band_compareBusy
def band_CheckBusy_L4 (g : C_band_CheckBusy) : Nat → List G_Busy → List G_Busy → Int → Int → {R : Type} → (Int → Option R) → Option R → Option R
 | 0, _, _, _, _, _, _, _ => none
 | n + 1, v2, v3, v4, v5, _, e0, e1 => (bif (decide (v5 < v4)) then (get_ v3 v5 fun x13 => (g.call_Is x13.f_Who (fun r14 => (bif (!r14) then e0 3 else (g.kit_Outside x13.f_Hertz 0 30000000000 (fun r15 => (bif r15 then e0 1 else (g.kit_Outside x13.f_Width 1 100000 (fun r16 => (bif r16 then e0 1 else (g.kit_IsTime x13.f_Time (fun r17 => (bif (!r17) then e0 1 else (bif (decide (v5 > 0)) then (get_ v2 (w64 (v5 - 1)) fun x18 => (g.band_compareBusy x18 x13 (fun r19 => (bif (decide (r19 ≥ 0)) then e0 7 else band_CheckBusy_L4 g n v2 v3 v4 (w64 (v5 + 1)) e0 e1)))) else band_CheckBusy_L4 g n v2 v3 v4 (w64 (v5 + 1)) e0 e1)))))))))))))) else e1)
def band_CheckBusy_ (g : C_band_CheckBusy) (a1 : List G_Busy) {R : Type} (k0 : Int → Option R) : Option R :=
 (bif (decide ((a1.length : Int) > 500)) then k0 2 else (band_CheckBusy_L4 g g.N a1 a1 (a1.length : Int) 0 (fun e20 => k0 e20) (k0 0)))
noncomputable def I_band_CheckBusy [Fuel] : C_band_CheckBusy := ⟨NN, @kit_Outside _, @kit_IsTime _, @call_Is _, @band_compareBusy _⟩
noncomputable def band_CheckBusy [Fuel] : T_band_CheckBusy := @band_CheckBusy_ I_band_CheckBusy
def SS_band_CheckBusy (g : T_band_CheckBusy) : Spec A := fun args => match args with | [.d (.sl 44 a1)] => fun k => g a1 (fun z0 => k (.d (.int .i64 z0)) [.undef]) | _ => fun _ => none
def sh_band_CheckBusy_L4 : SSt := mkSh 49 1 [(0, .sl 44), (8, .sl 44), (9, .int .i64), (10, .int .i64)] []
def LP_band_CheckBusy_L4 (g : C_band_CheckBusy) (n : Nat) : LPT A := fun ps => match ps with | [.d (.sl 44 p1), .d (.sl 44 p2), .d (.int .i64 p3), .d (.int .i64 p4)] => fun K => band_CheckBusy_L4 g n p1 p2 p3 p4 (fun z0 => K .ret (mkSt 49 1 [(2, .d (.int .i64 z0))] [])) (K (.exit 0) (mkSt 49 1 [] [])) | _ => fun _ => none
noncomputable def code_62 : Code := (Tryz.f62.body).getD .skip
noncomputable def E_band_CheckBusy (g : C_band_CheckBusy) : Env A := mkE [(33, SS_kit_Outside g.kit_Outside), (72, SS_kit_IsTime g.kit_IsTime), (95, SS_call_Is g.call_Is), (96, SS_band_compareBusy g.band_compareBusy)] [(4, [0])] [(4, ⟨[0, 8, 9, 10], [], [], []⟩)] [(4, ⟨[2], [], [], []⟩)] [(4, pieceOf sh_band_CheckBusy_L4 (LP_band_CheckBusy_L4 g g.N))] [] [] [] [] []
theorem ct_band_CheckBusy [Fuel] : NatTab (E_band_CheckBusy I_band_CheckBusy).C := ct_of (P := Tryz.prog) (T := T) (.cons ok_kit_Outside (.cons ok_kit_IsTime (.cons ok_call_Is (.cons ok_band_compareBusy .nil)))) (by kernel_rfl)
noncomputable def cb_band_CheckBusy_L4 : Code := sub [1, 1, 0, 1, 0, 0] code_62
theorem s_band_CheckBusy_L4 (g : C_band_CheckBusy) (n : Nat) : StepOk (E_band_CheckBusy g) g.N cb_band_CheckBusy_L4 sh_band_CheckBusy_L4 (LP_band_CheckBusy_L4 g) n := by intro ps; unfold LP_band_CheckBusy_L4; split; exact .inr fun R K => (by kernel_rfl); exact .inl fun R K => rfl
theorem lf_band_CheckBusy_L4 [Fuel] : LoopFine (E_band_CheckBusy I_band_CheckBusy) NN cb_band_CheckBusy_L4 := fine_loop sh_band_CheckBusy_L4 (LP_band_CheckBusy_L4 I_band_CheckBusy) (by kernel_rfl) ct_band_CheckBusy (cuts0 (fun _ => rfl) (by kernel_rfl)) (fun ps R K => by unfold LP_band_CheckBusy_L4; split <;> (try unfold band_CheckBusy_L4) <;> rfl) (s_band_CheckBusy_L4 I_band_CheckBusy)
theorem sm_band_CheckBusy (g : C_band_CheckBusy) : Same (SS_band_CheckBusy (@band_CheckBusy_ g)) (abody (E_band_CheckBusy g) Tryz.f62 code_62 1 [] [.asis] g.N) := by intro args; unfold SS_band_CheckBusy; split; exact .inr fun R k => (by kernel_rfl); exact .inl fun R k => rfl
theorem ok_band_CheckBusy [Fuel] : Ok 62 (SS_band_CheckBusy (@band_CheckBusy _)) := okF_of std (.cons ok_kit_Outside (.cons ok_kit_IsTime (.cons ok_call_Is (.cons ok_band_compareBusy .nil)))) ⟨rfl, rfl, by kernel_rfl, rfl, rfl, rfl⟩ (sm_band_CheckBusy I_band_CheckBusy) (cutsL (fun _ => rfl) (.cons lf_band_CheckBusy_L4 .nil) (by kernel_rfl)) Tryz.func62 (by kernel_rfl) (by kernel_rfl)
abbrev T_kit_IsMoment : Type 1 := Int → {R : Type} → (Bool → Option R) → Option R
structure C_kit_IsMoment where
 N : Nat
 kit_Outside : T_kit_Outside
def kit_IsMoment_ (g : C_kit_IsMoment) (a1 : Int) {R : Type} (k0 : Bool → Option R) : Option R :=
 (g.kit_Outside a1 0 345686399999 (fun r2 => k0 (!r2)))
noncomputable def I_kit_IsMoment [Fuel] : C_kit_IsMoment := ⟨NN, @kit_Outside _⟩
noncomputable def kit_IsMoment [Fuel] : T_kit_IsMoment := @kit_IsMoment_ I_kit_IsMoment
def SS_kit_IsMoment (g : T_kit_IsMoment) : Spec A := fun args => match args with | [.d (.int .i64 a1)] => fun k => g a1 (fun z0 => k (.d (.bool z0)) [.undef]) | _ => fun _ => none
noncomputable def code_41 : Code := (Tryz.f41.body).getD .skip
noncomputable def E_kit_IsMoment (g : C_kit_IsMoment) : Env A := mkE [(33, SS_kit_Outside g.kit_Outside)] [] [] [] [] [] [] [] [] []
theorem sm_kit_IsMoment (g : C_kit_IsMoment) : Same (SS_kit_IsMoment (@kit_IsMoment_ g)) (abody (E_kit_IsMoment g) Tryz.f41 code_41 0 [] [.asis] g.N) := by intro args; unfold SS_kit_IsMoment; split; exact .inr fun R k => (by kernel_rfl); exact .inl fun R k => rfl
theorem ok_kit_IsMoment [Fuel] : Ok 41 (SS_kit_IsMoment (@kit_IsMoment _)) := okF_of std (.cons ok_kit_Outside .nil) ⟨rfl, rfl, by kernel_rfl, rfl, rfl, rfl⟩ (sm_kit_IsMoment I_kit_IsMoment) (cuts0 (fun _ => rfl) (by kernel_rfl)) Tryz.func41 (by kernel_rfl) (by kernel_rfl)
abbrev T_band_freeFault : Type 1 := List G_Segment → List G_Busy → List UInt8 → Int → Int → Int → {R : Type} → (Int → Option R) → Option R
structure C_band_freeFault where
 N : Nat
 kit_Outside : T_kit_Outside
 band_CheckSegments : T_band_CheckSegments
 kit_IsKey : T_kit_IsKey
 kit_IsMode : T_kit_IsMode
 kit_IsMoment : T_kit_IsMoment
 band_CheckBusy : T_band_CheckBusy
def band_freeFault_ (g : C_band_freeFault) (a1 : List G_Segment) (a2 : List G_Busy) (a3 : List UInt8) (a4 a5 a6 : Int) {R : Type} (k0 : Int → Option R) : Option R :=
 (g.band_CheckSegments a1 (fun r7 => (bif (r7 != 0) then k0 r7 else (g.band_CheckBusy a2 (fun r8 => (bif (r8 != 0) then k0 r8 else (g.kit_IsKey a3 (fun r9 => (bif (!r9) then k0 5 else (g.kit_IsMode a4 (fun r10 => (bif (!r10) then k0 4 else (g.kit_Outside a5 1 100000 (fun r11 => (bif r11 then k0 1 else (g.kit_IsMoment a6 (fun r12 => (bif (!r12) then k0 1 else k0 0))))))))))))))))))
noncomputable def I_band_freeFault [Fuel] : C_band_freeFault := ⟨NN, @kit_Outside _, @band_CheckSegments _, @kit_IsKey _, @kit_IsMode _, @kit_IsMoment _, @band_CheckBusy _⟩
noncomputable def band_freeFault [Fuel] : T_band_freeFault := @band_freeFault_ I_band_freeFault
def SS_band_freeFault (g : T_band_freeFault) : Spec A := fun args => match args with | [.d (.sl 66 a1), .d (.sl 44 a2), .d (.str a3), .d (.int .i64 a4), .d (.int .i64 a5), .d (.int .i64 a6)] => fun k => g a1 a2 a3 a4 a5 a6 (fun z0 => k (.d (.int .i64 z0)) [.undef, .undef, .undef, .undef, .undef, .undef]) | _ => fun _ => none
noncomputable def code_31 : Code := (Tryz.f31.body).getD .skip
noncomputable def E_band_freeFault (g : C_band_freeFault) : Env A := mkE [(33, SS_kit_Outside g.kit_Outside), (38, SS_band_CheckSegments g.band_CheckSegments), (39, SS_kit_IsKey g.kit_IsKey), (40, SS_kit_IsMode g.kit_IsMode), (41, SS_kit_IsMoment g.kit_IsMoment), (62, SS_band_CheckBusy g.band_CheckBusy)] [] [] [] [] [] [] [] [] []
theorem sm_band_freeFault (g : C_band_freeFault) : Same (SS_band_freeFault (@band_freeFault_ g)) (abody (E_band_freeFault g) Tryz.f31 code_31 0 [] [.asis] g.N) := by intro args; unfold SS_band_freeFault; split; exact .inr fun R k => (by kernel_rfl); exact .inl fun R k => rfl
theorem ok_band_freeFault [Fuel] : Ok 31 (SS_band_freeFault (@band_freeFault _)) := okF_of std (.cons ok_kit_Outside (.cons ok_band_CheckSegments (.cons ok_kit_IsKey (.cons ok_kit_IsMode (.cons ok_kit_IsMoment (.cons ok_band_CheckBusy .nil)))))) ⟨rfl, rfl, by kernel_rfl, rfl, rfl, rfl⟩ (sm_band_freeFault I_band_freeFault) (cuts0 (fun _ => rfl) (by kernel_rfl)) Tryz.func31 (by kernel_rfl) (by kernel_rfl)
abbrev T_kit_Has : Type 1 := G_Window → Int → {R : Type} → (Bool → Option R) → Option R
def kit_Has_ (g : Nat) (a1 : G_Window) (a2 : Int) {R : Type} (k0 : Bool → Option R) : Option R :=
 (bif (decide (a1.f_From ≤ a2)) then k0 (decide (a2 < a1.f_To)) else k0 false)
noncomputable def kit_Has [Fuel] : T_kit_Has := @kit_Has_ NN
def SS_kit_Has (g : T_kit_Has) : Spec A := fun args => match args with | [.agg [.d (.int .i64 a1), .d (.int .i64 a2)], .d (.int .i64 a3)] => fun k => g ⟨a1, a2⟩ a3 (fun z0 => k (.d (.bool z0)) [.undef, .undef]) | _ => fun _ => none
noncomputable def code_63 : Code := (Tryz.f63.body).getD .skip
noncomputable def E_kit_Has (g : Nat) : Env A := mkE [] [(2, [0])] [] [] [] [] [] [] [] []
theorem sm_kit_Has (g : Nat) : Same (SS_kit_Has (@kit_Has_ g)) (abody (E_kit_Has g) Tryz.f63 code_63 1 [] [.asis] g) := by intro args; unfold SS_kit_Has; split; exact .inr fun R k => (by kernel_rfl); exact .inl fun R k => rfl
theorem ok_kit_Has [Fuel] : Ok 63 (SS_kit_Has (@kit_Has _)) := okF_of std .nil ⟨rfl, rfl, by kernel_rfl, rfl, rfl, rfl⟩ (sm_kit_Has NN) (cuts0 (fun _ => rfl) (by kernel_rfl)) Tryz.func63 (by kernel_rfl) (by kernel_rfl)
abbrev T_slices_Index__int : Type 1 := List Int → Int → {R : Type} → (Int → Option R) → Option R
def slices_Index__int_L2 (g : Nat) : Nat → List Int → Int → Int → Int → {R : Type} → (Int → Option R) → Option R → Option R
 | 0, _, _, _, _, _, _, _ => none
 | n + 1, v3, v4, v5, v6, _, e0, e1 => (bif (decide (v6 < v5)) then (get_ v3 v6 fun x8 => (bif (v4 == x8) then e0 v6 else slices_Index__int_L2 g n v3 v4 v5 (w64 (v6 + 1)) e0 e1)) else e1)
def slices_Index__int_ (g : Nat) (a1 : List Int) (a2 : Int) {R : Type} (k0 : Int → Option R) : Option R :=
 (slices_Index__int_L2 g g a1 a2 (a1.length : Int) 0 (fun e9 => k0 e9) (k0 (-1)))
noncomputable def slices_Index__int [Fuel] : T_slices_Index__int := @slices_Index__int_ NN
def SS_slices_Index__int (g : T_slices_Index__int) : Spec A := fun args => match args with | [.d (.sl 3 a1), .d (.int .i64 a2)] => fun k => g a1 a2 (fun z0 => k (.d (.int .i64 z0)) [.undef, .undef]) | _ => fun _ => none
def sh_slices_Index__int_L2 : SSt := mkSh 19 0 [(0, .sl 3), (1, .int .i64), (7, .int .i64), (8, .int .i64)] []
def LP_slices_Index__int_L2 (g : Nat) (n : Nat) : LPT A := fun ps => match ps with | [.d (.sl 3 p1), .d (.int .i64 p2), .d (.int .i64 p3), .d (.int .i64 p4)] => fun K => slices_Index__int_L2 g n p1 p2 p3 p4 (fun z0 => K .ret (mkSt 19 0 [(4, .d (.int .i64 z0))] [])) (K (.exit 0) (mkSt 19 0 [] [])) | _ => fun _ => none
noncomputable def code_57 : Code := (Tryz.f57.body).getD .skip
noncomputable def E_slices_Index__int (g : Nat) : Env A := mkE [] [] [(2, ⟨[0, 1, 7, 8], [], [], []⟩)] [(2, ⟨[4], [], [], []⟩)] [(2, pieceOf sh_slices_Index__int_L2 (LP_slices_Index__int_L2 g g))] [] [] [] [] []
theorem ct_slices_Index__int [Fuel] : NatTab (E_slices_Index__int NN).C := ct_of (P := Tryz.prog) (T := T) .nil (by kernel_rfl)
noncomputable def cb_slices_Index__int_L2 : Code := sub [1, 0, 1, 0, 0] code_57
theorem s_slices_Index__int_L2 (g : Nat) (n : Nat) : StepOk (E_slices_Index__int g) g cb_slices_Index__int_L2 sh_slices_Index__int_L2 (LP_slices_Index__int_L2 g) n := by intro ps; unfold LP_slices_Index__int_L2; split; exact .inr fun R K => (by kernel_rfl); exact .inl fun R K => rfl
theorem lf_slices_Index__int_L2 [Fuel] : LoopFine (E_slices_Index__int NN) NN cb_slices_Index__int_L2 := fine_loop sh_slices_Index__int_L2 (LP_slices_Index__int_L2 NN) (by kernel_rfl) ct_slices_Index__int (cuts0 (fun _ => rfl) (by kernel_rfl)) (fun ps R K => by unfold LP_slices_Index__int_L2; split <;> (try unfold slices_Index__int_L2) <;> rfl) (s_slices_Index__int_L2 NN)
theorem sm_slices_Index__int (g : Nat) : Same (SS_slices_Index__int (@slices_Index__int_ g)) (abody (E_slices_Index__int g) Tryz.f57 code_57 0 [] [.asis] g) := by intro args; unfold SS_slices_Index__int; split; exact .inr fun R k => (by kernel_rfl); exact .inl fun R k => rfl
theorem ok_slices_Index__int [Fuel] : Ok 57 (SS_slices_Index__int (@slices_Index__int _)) := okF_of std .nil ⟨rfl, rfl, by kernel_rfl, rfl, rfl, rfl⟩ (sm_slices_Index__int NN) (cutsL (fun _ => rfl) (.cons lf_slices_Index__int_L2 .nil) (by kernel_rfl)) Tryz.func57 (by kernel_rfl) (by kernel_rfl)
end Go.Am
