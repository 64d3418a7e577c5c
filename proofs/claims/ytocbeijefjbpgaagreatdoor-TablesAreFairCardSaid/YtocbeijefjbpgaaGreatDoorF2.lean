/- The functions of the program as Lean functions, each shown to be what the code computes, part 2. No condition: lemmas for the claim. -/
import Derived.Test.YtocbeijefjbpgaaGreatDoorF0
import Derived.Test.YtocbeijefjbpgaaGreatDoorFSh
import Derived.Test.YtocbeijefjbpgaaGreatDoorF1
set_option linter.unusedVariables false
set_option maxRecDepth 100000
namespace Go.Am
open Go Go.Proofs
abbrev T_strings_LastIndexAny : Type 1 := List UInt8 → List UInt8 → {R : Type} → (Int → Option R) → Option R
structure C_strings_LastIndexAny where
 N : Nat
 strings_makeASCIISet : T_strings_makeASCIISet
 utf8_DecodeLastRuneInString : T_utf8_DecodeLastRuneInString
 strings_IndexRune : T_strings_IndexRune
 strings_shouldUseASCIISet : T_strings_shouldUseASCIISet
def strings_LastIndexAny_L24 (g : C_strings_LastIndexAny) : Nat → List UInt8 → Int → Int → {R : Type} → (Int → Option R) → Option R → Option R
 | 0, _, _, _, _, _, _ => none
 | n + 1, v8, v9, v10, _, e0, e1 => (bif (decide (v10 > 0)) then (bif (decide (0 ≤ v10) && decide (v10 ≤ (v8.length : Int))) then (g.utf8_DecodeLastRuneInString (v8.take (v10 : Int).toNat) (fun r13 r14 => (bif (v9 == r13) then e0 (w64 (v10 - r14)) else strings_LastIndexAny_L24 g n v8 v9 (w64 (v10 - r14)) e0 e1))) else none) else e1)
def strings_LastIndexAny_L31 (g : C_strings_LastIndexAny) : Nat → List UInt8 → List UInt8 → Int → {R : Type} → (Int → Option R) → Option R → Option R
 | 0, _, _, _, _, _, _ => none
 | n + 1, v17, v18, v19, _, e0, e1 => (bif (decide (v19 > 0)) then (bif (decide (0 ≤ v19) && decide (v19 ≤ (v17.length : Int))) then (g.utf8_DecodeLastRuneInString (v17.take (v19 : Int).toNat) (fun r23 r24 => (g.strings_IndexRune v18 r23 (fun r25 => (bif (decide (r25 ≥ 0)) then e0 (w64 (v19 - r24)) else strings_LastIndexAny_L31 g n v17 v18 (w64 (v19 - r24)) e0 e1))))) else none) else e1)
def strings_LastIndexAny_ (g : C_strings_LastIndexAny) (a1 a2 : List UInt8) {R : Type} (k0 : Int → Option R) : Option R :=
 (bif (a2 == []) then k0 (-1) else (bif ((a1.length : Int) == 1) then (at_ a1 0 fun x3 => (bif (decide ((IntKind.i32.wrap (x3.toNat : Int)) ≥ 128)) then (g.strings_IndexRune a2 65533 (fun r4 => (bif (decide (r4 ≥ 0)) then k0 0 else k0 (-1)))) else (g.strings_IndexRune a2 (IntKind.i32.wrap (x3.toNat : Int)) (fun r5 => (bif (decide (r5 ≥ 0)) then k0 0 else k0 (-1)))))) else (g.strings_shouldUseASCIISet (a1.length : Int) (fun r6 => (bif r6 then (g.strings_makeASCIISet a2) else (bif ((a2.length : Int) == 1) then (at_ a2 0 fun x7 => (bif (decide ((IntKind.i32.wrap (x7.toNat : Int)) ≥ 128)) then (strings_LastIndexAny_L24 g g.N a1 65533 (a1.length : Int) (fun e15 => k0 e15) (k0 (-1))) else (strings_LastIndexAny_L24 g g.N a1 (IntKind.i32.wrap (x7.toNat : Int)) (a1.length : Int) (fun e16 => k0 e16) (k0 (-1))))) else (strings_LastIndexAny_L31 g g.N a1 a2 (a1.length : Int) (fun e26 => k0 e26) (k0 (-1)))))))))
noncomputable def I_strings_LastIndexAny [Fuel] : C_strings_LastIndexAny := ⟨NN, @strings_makeASCIISet _, @utf8_DecodeLastRuneInString _, @strings_IndexRune _, @strings_shouldUseASCIISet _⟩
noncomputable def strings_LastIndexAny [Fuel] : T_strings_LastIndexAny := @strings_LastIndexAny_ I_strings_LastIndexAny
def SS_strings_LastIndexAny (g : T_strings_LastIndexAny) : Spec A := fun args => match args with | [.d (.str a1), .d (.str a2)] => fun k => g a1 a2 (fun z0 => k (.d (.int .i64 z0)) [.undef, .undef]) | _ => fun _ => none
def sh_strings_LastIndexAny_L24 : SSt := mkSh 96 0 [(0, .str), (9, .int .i32), (10, .int .i64)] []
def LP_strings_LastIndexAny_L24 (g : C_strings_LastIndexAny) (n : Nat) : LPT A := fun ps => match ps with | [.d (.str p1), .d (.int .i32 p2), .d (.int .i64 p3)] => fun K => strings_LastIndexAny_L24 g n p1 p2 p3 (fun z0 => K .ret (mkSt 96 0 [(4, .d (.int .i64 z0))] [])) (K (.exit 2) (mkSt 96 0 [] [])) | _ => fun _ => none
def sh_strings_LastIndexAny_L31 : SSt := mkSh 96 0 [(0, .str), (1, .str), (13, .int .i64)] []
def LP_strings_LastIndexAny_L31 (g : C_strings_LastIndexAny) (n : Nat) : LPT A := fun ps => match ps with | [.d (.str p1), .d (.str p2), .d (.int .i64 p3)] => fun K => strings_LastIndexAny_L31 g n p1 p2 p3 (fun z0 => K .ret (mkSt 96 0 [(4, .d (.int .i64 z0))] [])) (K (.exit 4) (mkSt 96 0 [] [])) | _ => fun _ => none
noncomputable def code_108 : Code := (Tryz.f108.body).getD .skip
noncomputable def E_strings_LastIndexAny (g : C_strings_LastIndexAny) : Env A := mkE [(94, SS_strings_makeASCIISet g.strings_makeASCIISet), (128, SS_utf8_DecodeLastRuneInString g.utf8_DecodeLastRuneInString), (142, SS_strings_IndexRune g.strings_IndexRune), (143, SS_strings_shouldUseASCIISet g.strings_shouldUseASCIISet)] [] [(24, ⟨[0, 9, 10], [], [], [], [], []⟩), (31, ⟨[0, 1, 13], [], [], [], [], []⟩)] [(24, ⟨[4], [], [], [], [], []⟩), (31, ⟨[4], [], [], [], [], []⟩)] [(24, pieceOf sh_strings_LastIndexAny_L24 (LP_strings_LastIndexAny_L24 g g.N)), (31, pieceOf sh_strings_LastIndexAny_L31 (LP_strings_LastIndexAny_L31 g g.N))] [] [] [] [] []
theorem ct_strings_LastIndexAny [Fuel] : NatTab (E_strings_LastIndexAny I_strings_LastIndexAny).C := ct_of (P := Tryz.prog) (T := T) (.cons ok_strings_makeASCIISet (.cons ok_utf8_DecodeLastRuneInString (.cons ok_strings_IndexRune (.cons ok_strings_shouldUseASCIISet .nil)))) (by kernel_rfl)
noncomputable def cb_strings_LastIndexAny_L14 : Code := sub [1, 1, 1, 0, 1, 0, 1, 1, 0, 0, 1, 0, 0] code_108
theorem lf_strings_LastIndexAny_L14 [Fuel] : LoopFine (E_strings_LastIndexAny I_strings_LastIndexAny) NN cb_strings_LastIndexAny_L14 := no_loop (by kernel_rfl)
noncomputable def cb_strings_LastIndexAny_L24 : Code := sub [1, 1, 1, 1, 0, 1, 0, 1, 1, 0, 1, 0, 0] code_108
theorem s_strings_LastIndexAny_L24 (g : C_strings_LastIndexAny) (n : Nat) : StepOk (E_strings_LastIndexAny g) g.N cb_strings_LastIndexAny_L24 sh_strings_LastIndexAny_L24 (LP_strings_LastIndexAny_L24 g) n := by intro ps; unfold LP_strings_LastIndexAny_L24; split; exact .inr fun R K => (by kernel_rfl); exact .inl fun R K => rfl
theorem lf_strings_LastIndexAny_L24 [Fuel] : LoopFine (E_strings_LastIndexAny I_strings_LastIndexAny) NN cb_strings_LastIndexAny_L24 := fine_loop sh_strings_LastIndexAny_L24 (LP_strings_LastIndexAny_L24 I_strings_LastIndexAny) (by kernel_rfl) ct_strings_LastIndexAny (cuts0 (fun _ => rfl) (by kernel_rfl)) (fun ps R K => by unfold LP_strings_LastIndexAny_L24; split <;> (try unfold strings_LastIndexAny_L24) <;> rfl) (s_strings_LastIndexAny_L24 I_strings_LastIndexAny)
noncomputable def cb_strings_LastIndexAny_L31 : Code := sub [1, 1, 1, 1, 1, 0, 1, 0, 0] code_108
theorem s_strings_LastIndexAny_L31 (g : C_strings_LastIndexAny) (n : Nat) : StepOk (E_strings_LastIndexAny g) g.N cb_strings_LastIndexAny_L31 sh_strings_LastIndexAny_L31 (LP_strings_LastIndexAny_L31 g) n := by intro ps; unfold LP_strings_LastIndexAny_L31; split; exact .inr fun R K => (by kernel_rfl); exact .inl fun R K => rfl
theorem lf_strings_LastIndexAny_L31 [Fuel] : LoopFine (E_strings_LastIndexAny I_strings_LastIndexAny) NN cb_strings_LastIndexAny_L31 := fine_loop sh_strings_LastIndexAny_L31 (LP_strings_LastIndexAny_L31 I_strings_LastIndexAny) (by kernel_rfl) ct_strings_LastIndexAny (cuts0 (fun _ => rfl) (by kernel_rfl)) (fun ps R K => by unfold LP_strings_LastIndexAny_L31; split <;> (try unfold strings_LastIndexAny_L31) <;> rfl) (s_strings_LastIndexAny_L31 I_strings_LastIndexAny)
theorem sm_strings_LastIndexAny (g : C_strings_LastIndexAny) : Same (SS_strings_LastIndexAny (@strings_LastIndexAny_ g)) (abody (E_strings_LastIndexAny g) Tryz.f108 code_108 0 [] [.asis] g.N) := by intro args; unfold SS_strings_LastIndexAny; split; exact .inr fun R k => (by kernel_rfl); exact .inl fun R k => rfl
theorem ok_strings_LastIndexAny [Fuel] : Ok 108 (SS_strings_LastIndexAny (@strings_LastIndexAny _)) := okF_of std (.cons ok_strings_makeASCIISet (.cons ok_utf8_DecodeLastRuneInString (.cons ok_strings_IndexRune (.cons ok_strings_shouldUseASCIISet .nil)))) ⟨rfl, rfl, by kernel_rfl, rfl, rfl, rfl⟩ (sm_strings_LastIndexAny I_strings_LastIndexAny) (cutsL (fun _ => rfl) (.cons lf_strings_LastIndexAny_L14 (.cons lf_strings_LastIndexAny_L24 (.cons lf_strings_LastIndexAny_L31 .nil))) (by kernel_rfl)) Tryz.func108 (by kernel_rfl) (by kernel_rfl)
abbrev T_R_in : Type 1 := Int → Int → Int → {R : Type} → (Bool → Option R) → Option R
def R_in_ (g : Nat) (a1 a2 a3 : Int) {R : Type} (k0 : Bool → Option R) : Option R :=
 (bif (decide (a2 ≤ a1)) then k0 (decide (a1 ≤ a3)) else k0 false)
noncomputable def R_in [Fuel] : T_R_in := @R_in_ NN
def SS_R_in (g : T_R_in) : Spec A := fun args => match args with | [.d (.int .i64 a1), .d (.int .i64 a2), .d (.int .i64 a3)] => fun k => g a1 a2 a3 (fun z0 => k (.d (.bool z0)) [.undef, .undef, .undef]) | _ => fun _ => none
noncomputable def code_110 : Code := (Tryz.f110.body).getD .skip
noncomputable def E_R_in (g : Nat) : Env A := mkE [] [] [] [] [] [] [] [] [] []
theorem sm_R_in (g : Nat) : Same (SS_R_in (@R_in_ g)) (abody (E_R_in g) Tryz.f110 code_110 0 [] [.asis] g) := by intro args; unfold SS_R_in; split; exact .inr fun R k => (by kernel_rfl); exact .inl fun R k => rfl
theorem ok_R_in [Fuel] : Ok 110 (SS_R_in (@R_in _)) := okF_of std .nil ⟨rfl, rfl, by kernel_rfl, rfl, rfl, rfl⟩ (sm_R_in NN) (cuts0 (fun _ => rfl) (by kernel_rfl)) Tryz.func110 (by kernel_rfl) (by kernel_rfl)
abbrev T_strings_Trim : Type 1 := List UInt8 → List UInt8 → {R : Type} → (List UInt8 → Option R) → Option R
def strings_Trim [Fuel] : T_strings_Trim := @X_trim
def SS_strings_Trim (g : T_strings_Trim) : Spec A := SSX_trim g
theorem ok_strings_Trim [Fuel] : Ok 57 (SS_strings_Trim (@strings_Trim _)) := ⟨ssx_trim_sound (trim_sound rfl (fun s cs w h1 h2 h3 => Any.strings_Trim_laid Tryz.lays160 (by kernel_rfl) s cs w h1 h2 h3)), ssx_trim_nat, enters_of (fn := Tryz.f57) Tryz.func57 (by kernel_rfl) (by kernel_rfl)⟩
abbrev T_strings_ContainsAny : Type 1 := List UInt8 → List UInt8 → {R : Type} → (Bool → Option R) → Option R
def strings_ContainsAny [Fuel] : T_strings_ContainsAny := @X_cany
def SS_strings_ContainsAny (g : T_strings_ContainsAny) : Spec A := SSX_cany g
theorem ok_strings_ContainsAny [Fuel] : Ok 111 (SS_strings_ContainsAny (@strings_ContainsAny _)) := ⟨ssx_cany_sound (cany_sound rfl (fun s cs w h1 h2 h3 h4 => Any.strings_ContainsAny_laid Tryz.lays150 (by kernel_rfl) s cs w h1 h2 h3 h4)), ssx_cany_nat, enters_of (fn := Tryz.f111) Tryz.func111 (by kernel_rfl) (by kernel_rfl)⟩
abbrev T_R_plain : Type 1 := List UInt8 → Int → Int → {R : Type} → (Bool → Option R) → Option R
structure C_R_plain where
 N : Nat
 strings_Trim : T_strings_Trim
 R_in : T_R_in
 strings_ContainsAny : T_strings_ContainsAny
def R_plain_ (g : C_R_plain) (a1 : List UInt8) (a2 a3 : Int) {R : Type} (k0 : Bool → Option R) : Option R :=
 (g.R_in (a1.length : Int) a2 a3 (fun r4 => (bif r4 then (g.strings_Trim a1 [97, 98, 99, 100, 101, 102, 103, 104, 105, 106, 107, 108, 109, 110, 111, 112, 113, 114, 115, 116, 117, 118, 119, 120, 121, 122, 48, 49, 50, 51, 52, 53, 54, 55, 56, 57] (fun r5 => (bif (r5 == []) then (g.strings_ContainsAny a1 [97, 98, 99, 100, 101, 102, 103, 104, 105, 106, 107, 108, 109, 110, 111, 112, 113, 114, 115, 116, 117, 118, 119, 120, 121, 122] (fun r6 => k0 r6)) else k0 false))) else k0 false)))
noncomputable def I_R_plain [Fuel] : C_R_plain := ⟨NN, @strings_Trim _, @R_in _, @strings_ContainsAny _⟩
noncomputable def R_plain [Fuel] : T_R_plain := @R_plain_ I_R_plain
def SS_R_plain (g : T_R_plain) : Spec A := fun args => match args with | [.d (.str a1), .d (.int .i64 a2), .d (.int .i64 a3)] => fun k => g a1 a2 a3 (fun z0 => k (.d (.bool z0)) [.undef, .undef, .undef]) | _ => fun _ => none
noncomputable def code_109 : Code := (Tryz.f109.body).getD .skip
noncomputable def E_R_plain (g : C_R_plain) : Env A := mkE [(57, SS_strings_Trim g.strings_Trim), (110, SS_R_in g.R_in), (111, SS_strings_ContainsAny g.strings_ContainsAny)] [] [] [] [] [] [] [] [] []
theorem sm_R_plain (g : C_R_plain) : Same (SS_R_plain (@R_plain_ g)) (abody (E_R_plain g) Tryz.f109 code_109 0 [] [.asis] g.N) := by intro args; unfold SS_R_plain; split; exact .inr fun R k => (by kernel_rfl); exact .inl fun R k => rfl
theorem ok_R_plain [Fuel] : Ok 109 (SS_R_plain (@R_plain _)) := okF_of std (.cons ok_strings_Trim (.cons ok_R_in (.cons ok_strings_ContainsAny .nil))) ⟨rfl, rfl, by kernel_rfl, rfl, rfl, rfl⟩ (sm_R_plain I_R_plain) (cuts0 (fun _ => rfl) (by kernel_rfl)) Tryz.func109 (by kernel_rfl) (by kernel_rfl)
abbrev T_R_baseAt : Type 1 := List UInt8 → {R : Type} → (Int → Option R) → Option R
structure C_R_baseAt where
 N : Nat
 strings_LastIndexAny : T_strings_LastIndexAny
 R_plain : T_R_plain
 R_in : T_R_in
 strings_ContainsAny : T_strings_ContainsAny
def R_baseAt_ (g : C_R_baseAt) (a1 : List UInt8) {R : Type} (k0 : Int → Option R) : Option R :=
 (g.strings_LastIndexAny a1 [48, 49, 50, 51, 52, 53, 54, 55, 56, 57] (fun r2 => (g.R_plain a1 3 10 (fun r3 => (bif (!r3) then k0 (-1) else (g.R_in r2 1 3 (fun r4 => (bif (!r4) then k0 (-1) else (g.R_in (w64 ((w64 ((a1.length : Int) - 1)) - r2)) 1 4 (fun r5 => (bif (!r5) then k0 (-1) else (bif (decide (0 ≤ r2) && decide (r2 ≤ (a1.length : Int))) then (g.strings_ContainsAny (a1.take (r2 : Int).toNat) [97, 98, 99, 100, 101, 102, 103, 104, 105, 106, 107, 108, 109, 110, 111, 112, 113, 114, 115, 116, 117, 118, 119, 120, 121, 122] (fun r6 => (bif (!r6) then k0 (-1) else k0 r2))) else none))))))))))))
noncomputable def I_R_baseAt [Fuel] : C_R_baseAt := ⟨NN, @strings_LastIndexAny _, @R_plain _, @R_in _, @strings_ContainsAny _⟩
noncomputable def R_baseAt [Fuel] : T_R_baseAt := @R_baseAt_ I_R_baseAt
def SS_R_baseAt (g : T_R_baseAt) : Spec A := fun args => match args with | [.d (.str a1)] => fun k => g a1 (fun z0 => k (.d (.int .i64 z0)) [.undef]) | _ => fun _ => none
noncomputable def code_72 : Code := (Tryz.f72.body).getD .skip
noncomputable def E_R_baseAt (g : C_R_baseAt) : Env A := mkE [(108, SS_strings_LastIndexAny g.strings_LastIndexAny), (109, SS_R_plain g.R_plain), (110, SS_R_in g.R_in), (111, SS_strings_ContainsAny g.strings_ContainsAny)] [] [] [] [] [] [] [] [] []
theorem sm_R_baseAt (g : C_R_baseAt) : Same (SS_R_baseAt (@R_baseAt_ g)) (abody (E_R_baseAt g) Tryz.f72 code_72 0 [] [.asis] g.N) := by intro args; unfold SS_R_baseAt; split; exact .inr fun R k => (by kernel_rfl); exact .inl fun R k => rfl
theorem ok_R_baseAt [Fuel] : Ok 72 (SS_R_baseAt (@R_baseAt _)) := okF_of std (.cons ok_strings_LastIndexAny (.cons ok_R_plain (.cons ok_R_in (.cons ok_strings_ContainsAny .nil)))) ⟨rfl, rfl, by kernel_rfl, rfl, rfl, rfl⟩ (sm_R_baseAt I_R_baseAt) (cuts0 (fun _ => rfl) (by kernel_rfl)) Tryz.func72 (by kernel_rfl) (by kernel_rfl)
abbrev T_R_PartsOf_1 : Type 1 := List UInt8 → {R : Type} → (G_Parts → Option R) → Option R
structure C_R_PartsOf_1 where
 N : Nat
 R_baseAt : T_R_baseAt
def R_PartsOf_1_ (g : C_R_PartsOf_1) (a1 : List UInt8) {R : Type} (k0 : G_Parts → Option R) : Option R :=
 (g.R_baseAt a1 (fun r2 => (bif (decide (0 ≤ (w64 (r2 + 1))) && decide ((w64 (r2 + 1)) ≤ (a1.length : Int))) then (bif (decide (0 ≤ (w64 (r2 + 1))) && decide ((w64 (r2 + 1)) ≤ (a1.length : Int))) then k0 (⟨a1, (a1.take ((w64 (r2 + 1)) : Int).toNat), (a1.drop ((w64 (r2 + 1)) : Int).toNat), 0, []⟩ : G_Parts) else none) else none)))
noncomputable def I_R_PartsOf_1 [Fuel] : C_R_PartsOf_1 := ⟨NN, @R_baseAt _⟩
noncomputable def R_PartsOf_1 [Fuel] : T_R_PartsOf_1 := @R_PartsOf_1_ I_R_PartsOf_1
def SS_R_PartsOf_1 (g : T_R_PartsOf_1) : Spec A := fun args => match args with | [.d (.str a1)] => fun k => g a1 (fun z0 => k (.agg [.d (.str z0.f_Base), .d (.str z0.f_Prefix), .d (.str z0.f_Suffix), .d (.int .i64 z0.f_Kind), .d (.str z0.f_Added)]) [.undef]) | _ => fun _ => none
noncomputable def code_71 : Code := (Tryz.f71.body).getD .skip
noncomputable def E_R_PartsOf_1 (g : C_R_PartsOf_1) : Env A := mkE [(72, SS_R_baseAt g.R_baseAt)] [(2, [0])] [] [] [] [] [] [] [] []
theorem sm_R_PartsOf_1 (g : C_R_PartsOf_1) : Same (SS_R_PartsOf_1 (@R_PartsOf_1_ g)) (abody (E_R_PartsOf_1 g) Tryz.f71 code_71 1 [] [.asis] g.N) := by intro args; unfold SS_R_PartsOf_1; split; exact .inr fun R k => (by kernel_rfl); exact .inl fun R k => rfl
theorem ok_R_PartsOf_1 [Fuel] : Ok 71 (SS_R_PartsOf_1 (@R_PartsOf_1 _)) := okF_of std (.cons ok_R_baseAt .nil) ⟨rfl, rfl, by kernel_rfl, rfl, rfl, rfl⟩ (sm_R_PartsOf_1 I_R_PartsOf_1) (cuts0 (fun _ => rfl) (by kernel_rfl)) Tryz.func71 (by kernel_rfl) (by kernel_rfl)
abbrev T_R_begin : Type 1 := List UInt8 → {R : Type} → (Bool → Option R) → Option R
structure C_R_begin where
 N : Nat
 R_plain : T_R_plain
def R_begin_ (g : C_R_begin) (a1 : List UInt8) {R : Type} (k0 : Bool → Option R) : Option R :=
 (g.R_plain a1 1 4 (fun r2 => k0 r2))
noncomputable def I_R_begin [Fuel] : C_R_begin := ⟨NN, @R_plain _⟩
noncomputable def R_begin [Fuel] : T_R_begin := @R_begin_ I_R_begin
def SS_R_begin (g : T_R_begin) : Spec A := fun args => match args with | [.d (.str a1)] => fun k => g a1 (fun z0 => k (.d (.bool z0)) [.undef]) | _ => fun _ => none
noncomputable def code_73 : Code := (Tryz.f73.body).getD .skip
noncomputable def E_R_begin (g : C_R_begin) : Env A := mkE [(109, SS_R_plain g.R_plain)] [] [] [] [] [] [] [] [] []
theorem sm_R_begin (g : C_R_begin) : Same (SS_R_begin (@R_begin_ g)) (abody (E_R_begin g) Tryz.f73 code_73 0 [] [.asis] g.N) := by intro args; unfold SS_R_begin; split; exact .inr fun R k => (by kernel_rfl); exact .inl fun R k => rfl
theorem ok_R_begin [Fuel] : Ok 73 (SS_R_begin (@R_begin _)) := okF_of std (.cons ok_R_plain .nil) ⟨rfl, rfl, by kernel_rfl, rfl, rfl, rfl⟩ (sm_R_begin I_R_begin) (cuts0 (fun _ => rfl) (by kernel_rfl)) Tryz.func73 (by kernel_rfl) (by kernel_rfl)
abbrev T_strings_Index : Type 1 := List UInt8 → List UInt8 → {R : Type} → (Int → Option R) → Option R
structure C_strings_Index where
 N : Nat
 stringslite_Index : T_stringslite_Index
def strings_Index_ (g : C_strings_Index) (a1 a2 : List UInt8) {R : Type} (k0 : Int → Option R) : Option R :=
 (g.stringslite_Index a1 a2 (fun r3 => k0 r3))
noncomputable def I_strings_Index [Fuel] : C_strings_Index := ⟨NN, @stringslite_Index _⟩
noncomputable def strings_Index [Fuel] : T_strings_Index := @strings_Index_ I_strings_Index
def SS_strings_Index (g : T_strings_Index) : Spec A := fun args => match args with | [.d (.str a1), .d (.str a2)] => fun k => g a1 a2 (fun z0 => k (.d (.int .i64 z0)) [.undef, .undef]) | _ => fun _ => none
noncomputable def code_112 : Code := (Tryz.f112.body).getD .skip
noncomputable def E_strings_Index (g : C_strings_Index) : Env A := mkE [(141, SS_stringslite_Index g.stringslite_Index)] [] [] [] [] [] [] [] [] []
theorem sm_strings_Index (g : C_strings_Index) : Same (SS_strings_Index (@strings_Index_ g)) (abody (E_strings_Index g) Tryz.f112 code_112 0 [] [.asis] g.N) := by intro args; unfold SS_strings_Index; split; exact .inr fun R k => (by kernel_rfl); exact .inl fun R k => rfl
theorem ok_strings_Index [Fuel] : Ok 112 (SS_strings_Index (@strings_Index _)) := okF_of std (.cons ok_stringslite_Index .nil) ⟨rfl, rfl, by kernel_rfl, rfl, rfl, rfl⟩ (sm_strings_Index I_strings_Index) (cuts0 (fun _ => rfl) (by kernel_rfl)) Tryz.func112 (by kernel_rfl) (by kernel_rfl)
abbrev T_strings_Contains : Type 1 := List UInt8 → List UInt8 → {R : Type} → (Bool → Option R) → Option R
structure C_strings_Contains where
 N : Nat
 strings_Index : T_strings_Index
def strings_Contains_ (g : C_strings_Contains) (a1 a2 : List UInt8) {R : Type} (k0 : Bool → Option R) : Option R :=
 (g.strings_Index a1 a2 (fun r3 => k0 (decide (r3 ≥ 0))))
noncomputable def I_strings_Contains [Fuel] : C_strings_Contains := ⟨NN, @strings_Index _⟩
noncomputable def strings_Contains [Fuel] : T_strings_Contains := @strings_Contains_ I_strings_Contains
def SS_strings_Contains (g : T_strings_Contains) : Spec A := fun args => match args with | [.d (.str a1), .d (.str a2)] => fun k => g a1 a2 (fun z0 => k (.d (.bool z0)) [.undef, .undef]) | _ => fun _ => none
noncomputable def code_74 : Code := (Tryz.f74.body).getD .skip
noncomputable def E_strings_Contains (g : C_strings_Contains) : Env A := mkE [(112, SS_strings_Index g.strings_Index)] [] [] [] [] [] [] [] [] []
theorem sm_strings_Contains (g : C_strings_Contains) : Same (SS_strings_Contains (@strings_Contains_ g)) (abody (E_strings_Contains g) Tryz.f74 code_74 0 [] [.asis] g.N) := by intro args; unfold SS_strings_Contains; split; exact .inr fun R k => (by kernel_rfl); exact .inl fun R k => rfl
theorem ok_strings_Contains [Fuel] : Ok 74 (SS_strings_Contains (@strings_Contains _)) := okF_of std (.cons ok_strings_Index .nil) ⟨rfl, rfl, by kernel_rfl, rfl, rfl, rfl⟩ (sm_strings_Contains I_strings_Contains) (cuts0 (fun _ => rfl) (by kernel_rfl)) Tryz.func74 (by kernel_rfl) (by kernel_rfl)
abbrev T_R_PartsOf : Type 1 := List UInt8 → {R : Type} → (G_Parts → Bool → Option R) → Option R
structure C_R_PartsOf where
 N : Nat
 strings_Cut : T_strings_Cut
 R_PartsOf_1 : T_R_PartsOf_1
 R_baseAt : T_R_baseAt
 R_begin : T_R_begin
 strings_Contains : T_strings_Contains
def R_PartsOf_ (g : C_R_PartsOf) (a1 : List UInt8) {R : Type} (k0 : G_Parts → Bool → Option R) : Option R :=
 (g.strings_Cut a1 [47] (fun r2 r3 r4 => (bif (decide ((a1.length : Int) > 14)) then k0 (⟨[], [], [], 0, []⟩ : G_Parts) false else (bif (!r4) then (g.R_baseAt r2 (fun r5 => (bif (decide (r5 < 0)) then k0 (⟨[], [], [], 0, []⟩ : G_Parts) false else (g.R_PartsOf_1 r2 (fun r6 => k0 r6 true))))) else (g.R_baseAt r3 (fun r7 => (bif (decide (r7 ≥ 0)) then (g.R_begin r2 (fun r8 => (bif r8 then (g.R_PartsOf_1 r3 (fun r9 => k0 (⟨r9.f_Base, r9.f_Prefix, r9.f_Suffix, 1, r2⟩ : G_Parts) true)) else (g.R_baseAt r2 (fun r10 => (bif (decide (r10 < 0)) then k0 (⟨[], [], [], 0, []⟩ : G_Parts) false else (g.R_PartsOf_1 r2 (fun r11 => (bif (r3 == [112]) then k0 (⟨r11.f_Base, r11.f_Prefix, r11.f_Suffix, 3, r11.f_Added⟩ : G_Parts) true else (bif (r3 == [109]) then k0 (⟨r11.f_Base, r11.f_Prefix, r11.f_Suffix, 4, r11.f_Added⟩ : G_Parts) true else (bif (r3 == [109, 109]) then k0 (⟨r11.f_Base, r11.f_Prefix, r11.f_Suffix, 5, r11.f_Added⟩ : G_Parts) true else (bif (r3 == [97, 109]) then k0 (⟨r11.f_Base, r11.f_Prefix, r11.f_Suffix, 6, r11.f_Added⟩ : G_Parts) true else (bif ((r3.length : Int) == 1) then (g.strings_Contains [48, 49, 50, 51, 52, 53, 54, 55, 56, 57] r3 (fun r12 => (bif r12 then k0 (⟨r11.f_Base, r11.f_Prefix, r11.f_Suffix, 2, r3⟩ : G_Parts) true else (g.R_begin r3 (fun r13 => (bif r13 then k0 (⟨r11.f_Base, r11.f_Prefix, r11.f_Suffix, 1, r3⟩ : G_Parts) true else k0 (⟨[], [], [], 0, []⟩ : G_Parts) false)))))) else (g.R_begin r3 (fun r14 => (bif r14 then k0 (⟨r11.f_Base, r11.f_Prefix, r11.f_Suffix, 1, r3⟩ : G_Parts) true else k0 (⟨[], [], [], 0, []⟩ : G_Parts) false)))))))))))))))) else (g.R_baseAt r2 (fun r15 => (bif (decide (r15 < 0)) then k0 (⟨[], [], [], 0, []⟩ : G_Parts) false else (g.R_PartsOf_1 r2 (fun r16 => (bif (r3 == [112]) then k0 (⟨r16.f_Base, r16.f_Prefix, r16.f_Suffix, 3, r16.f_Added⟩ : G_Parts) true else (bif (r3 == [109]) then k0 (⟨r16.f_Base, r16.f_Prefix, r16.f_Suffix, 4, r16.f_Added⟩ : G_Parts) true else (bif (r3 == [109, 109]) then k0 (⟨r16.f_Base, r16.f_Prefix, r16.f_Suffix, 5, r16.f_Added⟩ : G_Parts) true else (bif (r3 == [97, 109]) then k0 (⟨r16.f_Base, r16.f_Prefix, r16.f_Suffix, 6, r16.f_Added⟩ : G_Parts) true else (bif ((r3.length : Int) == 1) then (g.strings_Contains [48, 49, 50, 51, 52, 53, 54, 55, 56, 57] r3 (fun r17 => (bif r17 then k0 (⟨r16.f_Base, r16.f_Prefix, r16.f_Suffix, 2, r3⟩ : G_Parts) true else (g.R_begin r3 (fun r18 => (bif r18 then k0 (⟨r16.f_Base, r16.f_Prefix, r16.f_Suffix, 1, r3⟩ : G_Parts) true else k0 (⟨[], [], [], 0, []⟩ : G_Parts) false)))))) else (g.R_begin r3 (fun r19 => (bif r19 then k0 (⟨r16.f_Base, r16.f_Prefix, r16.f_Suffix, 1, r3⟩ : G_Parts) true else k0 (⟨[], [], [], 0, []⟩ : G_Parts) false))))))))))))))))))))
noncomputable def I_R_PartsOf [Fuel] : C_R_PartsOf := ⟨NN, @strings_Cut _, @R_PartsOf_1 _, @R_baseAt _, @R_begin _, @strings_Contains _⟩
noncomputable def R_PartsOf [Fuel] : T_R_PartsOf := @R_PartsOf_ I_R_PartsOf
def SS_R_PartsOf (g : T_R_PartsOf) : Spec A := fun args => match args with | [.d (.str a1)] => fun k => g a1 (fun z0 z1 => k (.tup [.agg [.d (.str z0.f_Base), .d (.str z0.f_Prefix), .d (.str z0.f_Suffix), .d (.int .i64 z0.f_Kind), .d (.str z0.f_Added)], .d (.bool z1)]) [.undef]) | _ => fun _ => none
noncomputable def code_38 : Code := (Tryz.f38.body).getD .skip
noncomputable def E_R_PartsOf (g : C_R_PartsOf) : Env A := mkE [(70, SS_strings_Cut g.strings_Cut), (71, SS_R_PartsOf_1 g.R_PartsOf_1), (72, SS_R_baseAt g.R_baseAt), (73, SS_R_begin g.R_begin), (74, SS_strings_Contains g.strings_Contains)] [(2, [0]), (8, [1]), (9, [2])] [] [] [] [] [] [] [] []
theorem sm_R_PartsOf (g : C_R_PartsOf) : Same (SS_R_PartsOf (@R_PartsOf_ g)) (abody (E_R_PartsOf g) Tryz.f38 code_38 3 [] [.asis, .asis] g.N) := by intro args; unfold SS_R_PartsOf; split; exact .inr fun R k => (by kernel_rfl); exact .inl fun R k => rfl
theorem ok_R_PartsOf [Fuel] : Ok 38 (SS_R_PartsOf (@R_PartsOf _)) := okF_of std (.cons ok_strings_Cut (.cons ok_R_PartsOf_1 (.cons ok_R_baseAt (.cons ok_R_begin (.cons ok_strings_Contains .nil))))) ⟨rfl, rfl, by kernel_rfl, rfl, rfl, rfl⟩ (sm_R_PartsOf I_R_PartsOf) (cuts0 (fun _ => rfl) (by kernel_rfl)) Tryz.func38 (by kernel_rfl) (by kernel_rfl)
abbrev T_Q_Call : Type 1 := List UInt8 → {R : Type} → (Bool → Option R) → Option R
structure C_Q_Call where
 N : Nat
 R_PartsOf : T_R_PartsOf
def Q_Call_ (g : C_Q_Call) (a1 : List UInt8) {R : Type} (k0 : Bool → Option R) : Option R :=
 (g.R_PartsOf a1 (fun r2 r3 => k0 r3))
noncomputable def I_Q_Call [Fuel] : C_Q_Call := ⟨NN, @R_PartsOf _⟩
noncomputable def Q_Call [Fuel] : T_Q_Call := @Q_Call_ I_Q_Call
def SS_Q_Call (g : T_Q_Call) : Spec A := fun args => match args with | [.d (.str a1)] => fun k => g a1 (fun z0 => k (.d (.bool z0)) [.undef]) | _ => fun _ => none
noncomputable def code_19 : Code := (Tryz.f19.body).getD .skip
noncomputable def E_Q_Call (g : C_Q_Call) : Env A := mkE [(38, SS_R_PartsOf g.R_PartsOf)] [(3, [0])] [] [] [] [] [] [] [] []
theorem sm_Q_Call (g : C_Q_Call) : Same (SS_Q_Call (@Q_Call_ g)) (abody (E_Q_Call g) Tryz.f19 code_19 1 [] [.asis] g.N) := by intro args; unfold SS_Q_Call; split; exact .inr fun R k => (by kernel_rfl); exact .inl fun R k => rfl
theorem ok_Q_Call [Fuel] : Ok 19 (SS_Q_Call (@Q_Call _)) := okF_of std (.cons ok_R_PartsOf .nil) ⟨rfl, rfl, by kernel_rfl, rfl, rfl, rfl⟩ (sm_Q_Call I_Q_Call) (cuts0 (fun _ => rfl) (by kernel_rfl)) Tryz.func19 (by kernel_rfl) (by kernel_rfl)
abbrev T_Q_in : Type 1 := Int → Int → Int → {R : Type} → (Bool → Option R) → Option R
def Q_in_ (g : Nat) (a1 a2 a3 : Int) {R : Type} (k0 : Bool → Option R) : Option R :=
 (bif (decide (a2 ≤ a1)) then k0 (decide (a1 ≤ a3)) else k0 false)
noncomputable def Q_in [Fuel] : T_Q_in := @Q_in_ NN
def SS_Q_in (g : T_Q_in) : Spec A := fun args => match args with | [.d (.int .i64 a1), .d (.int .i64 a2), .d (.int .i64 a3)] => fun k => g a1 a2 a3 (fun z0 => k (.d (.bool z0)) [.undef, .undef, .undef]) | _ => fun _ => none
noncomputable def code_21 : Code := (Tryz.f21.body).getD .skip
noncomputable def E_Q_in (g : Nat) : Env A := mkE [] [] [] [] [] [] [] [] [] []
theorem sm_Q_in (g : Nat) : Same (SS_Q_in (@Q_in_ g)) (abody (E_Q_in g) Tryz.f21 code_21 0 [] [.asis] g) := by intro args; unfold SS_Q_in; split; exact .inr fun R k => (by kernel_rfl); exact .inl fun R k => rfl
theorem ok_Q_in [Fuel] : Ok 21 (SS_Q_in (@Q_in _)) := okF_of std .nil ⟨rfl, rfl, by kernel_rfl, rfl, rfl, rfl⟩ (sm_Q_in NN) (cuts0 (fun _ => rfl) (by kernel_rfl)) Tryz.func21 (by kernel_rfl) (by kernel_rfl)
abbrev T_strings_IndexByte : Type 1 := List UInt8 → Int → {R : Type} → (Int → Option R) → Option R
def strings_IndexByte [Fuel] : T_strings_IndexByte := @X_ixb
def SS_strings_IndexByte (g : T_strings_IndexByte) : Spec A := SSX_ixb g
theorem ok_strings_IndexByte [Fuel] : Ok 56 (SS_strings_IndexByte (@strings_IndexByte _)) := ⟨ssx_ixb_sound (ixb_sound (Any.strings_IndexByte Tryz.lays137)), ssx_ixb_nat, enters_of (fn := Tryz.f56) Tryz.func56 (by kernel_rfl) (by kernel_rfl)⟩
abbrev T_Q_only : Type 1 := List UInt8 → List UInt8 → {R : Type} → (Bool → Option R) → Option R
structure C_Q_only where
 N : Nat
 strings_IndexByte : T_strings_IndexByte
def Q_only_L2 (g : C_Q_only) : Nat → List UInt8 → List UInt8 → Int → Int → {R : Type} → (Bool → Option R) → Option R → Option R
 | 0, _, _, _, _, _, _, _ => none
 | n + 1, v3, v4, v5, v6, _, e0, e1 => (bif (decide (v6 < v5)) then (get_ v3 v6 fun x9 => (g.strings_IndexByte v4 (x9.toNat : Int) (fun r10 => (bif (decide (r10 < 0)) then e0 false else Q_only_L2 g n v3 v4 v5 (w64 (v6 + 1)) e0 e1)))) else e1)
def Q_only_ (g : C_Q_only) (a1 a2 : List UInt8) {R : Type} (k0 : Bool → Option R) : Option R :=
 (Q_only_L2 g g.N a1 a2 (a1.length : Int) 0 (fun e11 => k0 e11) (k0 true))
noncomputable def I_Q_only [Fuel] : C_Q_only := ⟨NN, @strings_IndexByte _⟩
noncomputable def Q_only [Fuel] : T_Q_only := @Q_only_ I_Q_only
def SS_Q_only (g : T_Q_only) : Spec A := fun args => match args with | [.d (.str a1), .d (.str a2)] => fun k => g a1 a2 (fun z0 => k (.d (.bool z0)) [.undef, .undef]) | _ => fun _ => none
def sh_Q_only_L2 : SSt := mkSh 18 0 [(0, .str), (1, .str), (7, .int .i64), (8, .int .i64)] []
def LP_Q_only_L2 (g : C_Q_only) (n : Nat) : LPT A := fun ps => match ps with | [.d (.str p1), .d (.str p2), .d (.int .i64 p3), .d (.int .i64 p4)] => fun K => Q_only_L2 g n p1 p2 p3 p4 (fun z0 => K .ret (mkSt 18 0 [(4, .d (.bool z0))] [])) (K (.exit 0) (mkSt 18 0 [] [])) | _ => fun _ => none
noncomputable def code_39 : Code := (Tryz.f39.body).getD .skip
noncomputable def E_Q_only (g : C_Q_only) : Env A := mkE [(56, SS_strings_IndexByte g.strings_IndexByte)] [] [(2, ⟨[0, 1, 7, 8], [], [], [], [], []⟩)] [(2, ⟨[4], [], [], [], [], []⟩)] [(2, pieceOf sh_Q_only_L2 (LP_Q_only_L2 g g.N))] [] [] [] [] []
theorem ct_Q_only [Fuel] : NatTab (E_Q_only I_Q_only).C := ct_of (P := Tryz.prog) (T := T) (.cons ok_strings_IndexByte .nil) (by kernel_rfl)
noncomputable def cb_Q_only_L2 : Code := sub [1, 0, 1, 0, 0] code_39
theorem s_Q_only_L2 (g : C_Q_only) (n : Nat) : StepOk (E_Q_only g) g.N cb_Q_only_L2 sh_Q_only_L2 (LP_Q_only_L2 g) n := by intro ps; unfold LP_Q_only_L2; split; exact .inr fun R K => (by kernel_rfl); exact .inl fun R K => rfl
theorem lf_Q_only_L2 [Fuel] : LoopFine (E_Q_only I_Q_only) NN cb_Q_only_L2 := fine_loop sh_Q_only_L2 (LP_Q_only_L2 I_Q_only) (by kernel_rfl) ct_Q_only (cuts0 (fun _ => rfl) (by kernel_rfl)) (fun ps R K => by unfold LP_Q_only_L2; split <;> (try unfold Q_only_L2) <;> rfl) (s_Q_only_L2 I_Q_only)
theorem sm_Q_only (g : C_Q_only) : Same (SS_Q_only (@Q_only_ g)) (abody (E_Q_only g) Tryz.f39 code_39 0 [] [.asis] g.N) := by intro args; unfold SS_Q_only; split; exact .inr fun R k => (by kernel_rfl); exact .inl fun R k => rfl
theorem ok_Q_only [Fuel] : Ok 39 (SS_Q_only (@Q_only _)) := okF_of std (.cons ok_strings_IndexByte .nil) ⟨rfl, rfl, by kernel_rfl, rfl, rfl, rfl⟩ (sm_Q_only I_Q_only) (cutsL (fun _ => rfl) (.cons lf_Q_only_L2 .nil) (by kernel_rfl)) Tryz.func39 (by kernel_rfl) (by kernel_rfl)
abbrev T_Q_Key : Type 1 := List UInt8 → {R : Type} → (Bool → Option R) → Option R
structure C_Q_Key where
 N : Nat
 Q_in : T_Q_in
 Q_only : T_Q_only
def Q_Key_ (g : C_Q_Key) (a1 : List UInt8) {R : Type} (k0 : Bool → Option R) : Option R :=
 (g.Q_in (a1.length : Int) 1 40 (fun r2 => (bif r2 then (bif (decide (0 ≤ 1) && decide (1 ≤ (a1.length : Int))) then (g.Q_only (a1.take (1 : Int).toNat) [97, 98, 99, 100, 101, 102, 103, 104, 105, 106, 107, 108, 109, 110, 111, 112, 113, 114, 115, 116, 117, 118, 119, 120, 121, 122] (fun r3 => (bif r3 then (g.Q_only a1 [97, 98, 99, 100, 101, 102, 103, 104, 105, 106, 107, 108, 109, 110, 111, 112, 113, 114, 115, 116, 117, 118, 119, 120, 121, 122, 48, 49, 50, 51, 52, 53, 54, 55, 56, 57, 45, 95] (fun r4 => k0 r4)) else k0 false))) else none) else k0 false)))
noncomputable def I_Q_Key [Fuel] : C_Q_Key := ⟨NN, @Q_in _, @Q_only _⟩
noncomputable def Q_Key [Fuel] : T_Q_Key := @Q_Key_ I_Q_Key
def SS_Q_Key (g : T_Q_Key) : Spec A := fun args => match args with | [.d (.str a1)] => fun k => g a1 (fun z0 => k (.d (.bool z0)) [.undef]) | _ => fun _ => none
noncomputable def code_20 : Code := (Tryz.f20.body).getD .skip
noncomputable def E_Q_Key (g : C_Q_Key) : Env A := mkE [(21, SS_Q_in g.Q_in), (39, SS_Q_only g.Q_only)] [] [] [] [] [] [] [] [] []
theorem sm_Q_Key (g : C_Q_Key) : Same (SS_Q_Key (@Q_Key_ g)) (abody (E_Q_Key g) Tryz.f20 code_20 0 [] [.asis] g.N) := by intro args; unfold SS_Q_Key; split; exact .inr fun R k => (by kernel_rfl); exact .inl fun R k => rfl
theorem ok_Q_Key [Fuel] : Ok 20 (SS_Q_Key (@Q_Key _)) := okF_of std (.cons ok_Q_in (.cons ok_Q_only .nil)) ⟨rfl, rfl, by kernel_rfl, rfl, rfl, rfl⟩ (sm_Q_Key I_Q_Key) (cuts0 (fun _ => rfl) (by kernel_rfl)) Tryz.func20 (by kernel_rfl) (by kernel_rfl)
abbrev T_slices_Index__int : Type 1 := List Int → Int → {R : Type} → (Int → Option R) → Option R
def slices_Index__int_L2 (g : Nat) : Nat → List Int → Int → Int → Int → {R : Type} → (Int → Option R) → Option R → Option R
 | 0, _, _, _, _, _, _, _ => none
 | n + 1, v3, v4, v5, v6, _, e0, e1 => (bif (decide (v6 < v5)) then (get_ v3 v6 fun x8 => (bif (v4 == x8) then e0 v6 else slices_Index__int_L2 g n v3 v4 v5 (w64 (v6 + 1)) e0 e1)) else e1)
def slices_Index__int_ (g : Nat) (a1 : List Int) (a2 : Int) {R : Type} (k0 : Int → Option R) : Option R :=
 (slices_Index__int_L2 g g a1 a2 (a1.length : Int) 0 (fun e9 => k0 e9) (k0 (-1)))
noncomputable def slices_Index__int [Fuel] : T_slices_Index__int := @slices_Index__int_ NN
def SS_slices_Index__int (g : T_slices_Index__int) : Spec A := fun args => match args with | [.d (.sl 3 a1), .d (.int .i64 a2)] => fun k => g a1 a2 (fun z0 => k (.d (.int .i64 z0)) [.undef, .undef]) | _ => fun _ => none
def sh_slices_Index__int_L2 : SSt := mkSh 19 0 [(0, .sl 3), (1, .int .i64), (7, .int .i64), (8, .int .i64)] []
def LP_slices_Index__int_L2 (g : Nat) (n : Nat) : LPT A := fun ps => match ps with | [.d (.sl 3 p1), .d (.int .i64 p2), .d (.int .i64 p3), .d (.int .i64 p4)] => fun K => slices_Index__int_L2 g n p1 p2 p3 p4 (fun z0 => K .ret (mkSt 19 0 [(4, .d (.int .i64 z0))] [])) (K (.exit 0) (mkSt 19 0 [] [])) | _ => fun _ => none
noncomputable def code_113 : Code := (Tryz.f113.body).getD .skip
noncomputable def E_slices_Index__int (g : Nat) : Env A := mkE [] [] [(2, ⟨[0, 1, 7, 8], [], [], [], [], []⟩)] [(2, ⟨[4], [], [], [], [], []⟩)] [(2, pieceOf sh_slices_Index__int_L2 (LP_slices_Index__int_L2 g g))] [] [] [] [] []
theorem ct_slices_Index__int [Fuel] : NatTab (E_slices_Index__int NN).C := ct_of (P := Tryz.prog) (T := T) .nil (by kernel_rfl)
noncomputable def cb_slices_Index__int_L2 : Code := sub [1, 0, 1, 0, 0] code_113
theorem s_slices_Index__int_L2 (g : Nat) (n : Nat) : StepOk (E_slices_Index__int g) g cb_slices_Index__int_L2 sh_slices_Index__int_L2 (LP_slices_Index__int_L2 g) n := by intro ps; unfold LP_slices_Index__int_L2; split; exact .inr fun R K => (by kernel_rfl); exact .inl fun R K => rfl
theorem lf_slices_Index__int_L2 [Fuel] : LoopFine (E_slices_Index__int NN) NN cb_slices_Index__int_L2 := fine_loop sh_slices_Index__int_L2 (LP_slices_Index__int_L2 NN) (by kernel_rfl) ct_slices_Index__int (cuts0 (fun _ => rfl) (by kernel_rfl)) (fun ps R K => by unfold LP_slices_Index__int_L2; split <;> (try unfold slices_Index__int_L2) <;> rfl) (s_slices_Index__int_L2 NN)
theorem sm_slices_Index__int (g : Nat) : Same (SS_slices_Index__int (@slices_Index__int_ g)) (abody (E_slices_Index__int g) Tryz.f113 code_113 0 [] [.asis] g) := by intro args; unfold SS_slices_Index__int; split; exact .inr fun R k => (by kernel_rfl); exact .inl fun R k => rfl
theorem ok_slices_Index__int [Fuel] : Ok 113 (SS_slices_Index__int (@slices_Index__int _)) := okF_of std .nil ⟨rfl, rfl, by kernel_rfl, rfl, rfl, rfl⟩ (sm_slices_Index__int NN) (cutsL (fun _ => rfl) (.cons lf_slices_Index__int_L2 .nil) (by kernel_rfl)) Tryz.func113 (by kernel_rfl) (by kernel_rfl)
abbrev T_slices_Contains__int : Type 1 := List Int → Int → {R : Type} → (Bool → Option R) → Option R
structure C_slices_Contains__int where
 N : Nat
 slices_Index__int : T_slices_Index__int
def slices_Contains__int_ (g : C_slices_Contains__int) (a1 : List Int) (a2 : Int) {R : Type} (k0 : Bool → Option R) : Option R :=
 (g.slices_Index__int a1 a2 (fun r3 => k0 (decide (r3 ≥ 0))))
noncomputable def I_slices_Contains__int [Fuel] : C_slices_Contains__int := ⟨NN, @slices_Index__int _⟩
noncomputable def slices_Contains__int [Fuel] : T_slices_Contains__int := @slices_Contains__int_ I_slices_Contains__int
def SS_slices_Contains__int (g : T_slices_Contains__int) : Spec A := fun args => match args with | [.d (.sl 3 a1), .d (.int .i64 a2)] => fun k => g a1 a2 (fun z0 => k (.d (.bool z0)) [.undef, .undef]) | _ => fun _ => none
noncomputable def code_75 : Code := (Tryz.f75.body).getD .skip
noncomputable def E_slices_Contains__int (g : C_slices_Contains__int) : Env A := mkE [(113, SS_slices_Index__int g.slices_Index__int)] [] [] [] [] [] [] [] [] []
theorem sm_slices_Contains__int (g : C_slices_Contains__int) : Same (SS_slices_Contains__int (@slices_Contains__int_ g)) (abody (E_slices_Contains__int g) Tryz.f75 code_75 0 [] [.asis] g.N) := by intro args; unfold SS_slices_Contains__int; split; exact .inr fun R k => (by kernel_rfl); exact .inl fun R k => rfl
theorem ok_slices_Contains__int [Fuel] : Ok 75 (SS_slices_Contains__int (@slices_Contains__int _)) := okF_of std (.cons ok_slices_Index__int .nil) ⟨rfl, rfl, by kernel_rfl, rfl, rfl, rfl⟩ (sm_slices_Contains__int I_slices_Contains__int) (cuts0 (fun _ => rfl) (by kernel_rfl)) Tryz.func75 (by kernel_rfl) (by kernel_rfl)
abbrev T_Q_Square : Type 1 := List UInt8 → {R : Type} → (Bool → Option R) → Option R
structure C_Q_Square where
 N : Nat
 Q_only : T_Q_only
 slices_Contains__int : T_slices_Contains__int
def Q_Square_L5 (g : C_Q_Square) : Nat → List UInt8 → Int → Int → List (List UInt8) → {R : Type} → (Bool → Option R) → Option R → Option R
 | 0, _, _, _, _, _, _, _ => none
 | n + 1, v3, v4, v5, v6, _, e0, e1 => (bif (decide (v5 < v4)) then (bif (decide (0 ≤ v5) && (decide (v5 ≤ (w64 (v5 + 1))) && decide ((w64 (v5 + 1)) ≤ (v3.length : Int)))) then (inr v6 v5 (at_ v6 v5 fun x9 => (g.Q_only ((v3.take ((w64 (v5 + 1)) : Int).toNat).drop (v5 : Int).toNat) x9 (fun r10 => (bif (!r10) then e0 false else Q_Square_L5 g n v3 v4 (w64 (v5 + 1)) v6 e0 e1))))) else none) else e1)
def Q_Square_ (g : C_Q_Square) (a1 : List UInt8) {R : Type} (k0 : Bool → Option R) : Option R :=
 (bif (decide (0 ≤ 18) && decide (18 ≤ ([97, 98, 99, 100, 101, 102, 103, 104, 105, 106, 107, 108, 109, 110, 111, 112, 113, 114, 115, 116, 117, 118, 119, 120, 121, 122].length : Int))) then (bif (decide (0 ≤ 18) && decide (18 ≤ ([97, 98, 99, 100, 101, 102, 103, 104, 105, 106, 107, 108, 109, 110, 111, 112, 113, 114, 115, 116, 117, 118, 119, 120, 121, 122].length : Int))) then (bif (decide (0 ≤ 24) && decide (24 ≤ ([97, 98, 99, 100, 101, 102, 103, 104, 105, 106, 107, 108, 109, 110, 111, 112, 113, 114, 115, 116, 117, 118, 119, 120, 121, 122].length : Int))) then (bif (decide (0 ≤ 24) && decide (24 ≤ ([97, 98, 99, 100, 101, 102, 103, 104, 105, 106, 107, 108, 109, 110, 111, 112, 113, 114, 115, 116, 117, 118, 119, 120, 121, 122].length : Int))) then (g.slices_Contains__int [2, 4, 6] (a1.length : Int) (fun r2 => (bif (!r2) then k0 false else (Q_Square_L5 g g.N a1 (a1.length : Int) 0 [([97, 98, 99, 100, 101, 102, 103, 104, 105, 106, 107, 108, 109, 110, 111, 112, 113, 114, 115, 116, 117, 118, 119, 120, 121, 122].take (18 : Int).toNat), ([97, 98, 99, 100, 101, 102, 103, 104, 105, 106, 107, 108, 109, 110, 111, 112, 113, 114, 115, 116, 117, 118, 119, 120, 121, 122].take (18 : Int).toNat), [48, 49, 50, 51, 52, 53, 54, 55, 56, 57], [48, 49, 50, 51, 52, 53, 54, 55, 56, 57], ([97, 98, 99, 100, 101, 102, 103, 104, 105, 106, 107, 108, 109, 110, 111, 112, 113, 114, 115, 116, 117, 118, 119, 120, 121, 122].take (24 : Int).toNat), ([97, 98, 99, 100, 101, 102, 103, 104, 105, 106, 107, 108, 109, 110, 111, 112, 113, 114, 115, 116, 117, 118, 119, 120, 121, 122].take (24 : Int).toNat)] (fun e11 => k0 e11) (k0 true))))) else none) else none) else none) else none)
noncomputable def I_Q_Square [Fuel] : C_Q_Square := ⟨NN, @Q_only _, @slices_Contains__int _⟩
noncomputable def Q_Square [Fuel] : T_Q_Square := @Q_Square_ I_Q_Square
def SS_Q_Square (g : T_Q_Square) : Spec A := fun args => match args with | [.d (.str a1)] => fun k => g a1 (fun z0 => k (.d (.bool z0)) [.undef]) | _ => fun _ => none
def sh_Q_Square_L5 : SSt := mkSh 32 2 [(0, .str), (3, .own 9 0), (16, .int .i64), (17, .int .i64)] [(0, .row 9)]
def LP_Q_Square_L5 (g : C_Q_Square) (n : Nat) : LPT A := fun ps => match ps with | [.d (.str p1), .d (.int .i64 p2), .d (.int .i64 p3), .d (.sl 9 p4)] => fun K => Q_Square_L5 g n p1 p2 p3 p4 (fun z0 => K .ret (mkSt 32 2 [(2, .d (.bool z0))] [])) (K (.exit 0) (mkSt 32 2 [] [])) | _ => fun _ => none
noncomputable def code_40 : Code := (Tryz.f40.body).getD .skip
noncomputable def E_Q_Square (g : C_Q_Square) : Env A := mkE [(39, SS_Q_only g.Q_only), (75, SS_slices_Contains__int g.slices_Contains__int)] [(9, [0]), (10, [1])] [(5, ⟨[0, 3, 16, 17], [], [0], [], [], []⟩)] [(5, ⟨[2], [], [], [], [], []⟩)] [(5, pieceOf sh_Q_Square_L5 (LP_Q_Square_L5 g g.N))] [] [] [] [] []
theorem ct_Q_Square [Fuel] : NatTab (E_Q_Square I_Q_Square).C := ct_of (P := Tryz.prog) (T := T) (.cons ok_Q_only (.cons ok_slices_Contains__int .nil)) (by kernel_rfl)
noncomputable def cb_Q_Square_L5 : Code := sub [1, 1, 1, 0, 1, 0, 0] code_40
theorem s_Q_Square_L5 (g : C_Q_Square) (n : Nat) : StepOk (E_Q_Square g) g.N cb_Q_Square_L5 sh_Q_Square_L5 (LP_Q_Square_L5 g) n := by intro ps; unfold LP_Q_Square_L5; split; exact .inr fun R K => (by kernel_rfl); exact .inl fun R K => rfl
theorem lf_Q_Square_L5 [Fuel] : LoopFine (E_Q_Square I_Q_Square) NN cb_Q_Square_L5 := fine_loop sh_Q_Square_L5 (LP_Q_Square_L5 I_Q_Square) (by kernel_rfl) ct_Q_Square (cuts0 (fun _ => rfl) (by kernel_rfl)) (fun ps R K => by unfold LP_Q_Square_L5; split <;> (try unfold Q_Square_L5) <;> rfl) (s_Q_Square_L5 I_Q_Square)
theorem sm_Q_Square (g : C_Q_Square) : Same (SS_Q_Square (@Q_Square_ g)) (abody (E_Q_Square g) Tryz.f40 code_40 2 [] [.asis] g.N) := by intro args; unfold SS_Q_Square; split; exact .inr fun R k => (by kernel_rfl); exact .inl fun R k => rfl
theorem ok_Q_Square [Fuel] : Ok 40 (SS_Q_Square (@Q_Square _)) := okF_of std (.cons ok_Q_only (.cons ok_slices_Contains__int .nil)) ⟨rfl, rfl, by kernel_rfl, rfl, rfl, rfl⟩ (sm_Q_Square I_Q_Square) (cutsL (fun _ => rfl) (.cons lf_Q_Square_L5 .nil) (by kernel_rfl)) Tryz.func40 (by kernel_rfl) (by kernel_rfl)
abbrev T_Q_locator : Type 1 := List UInt8 → {R : Type} → (Bool → Option R) → Option R
structure C_Q_locator where
 N : Nat
 Q_Square : T_Q_Square
def Q_locator_ (g : C_Q_locator) (a1 : List UInt8) {R : Type} (k0 : Bool → Option R) : Option R :=
 (bif ((a1.length : Int) == 6) then (g.Q_Square a1 (fun r2 => k0 r2)) else k0 false)
noncomputable def I_Q_locator [Fuel] : C_Q_locator := ⟨NN, @Q_Square _⟩
noncomputable def Q_locator [Fuel] : T_Q_locator := @Q_locator_ I_Q_locator
def SS_Q_locator (g : T_Q_locator) : Spec A := fun args => match args with | [.d (.str a1)] => fun k => g a1 (fun z0 => k (.d (.bool z0)) [.undef]) | _ => fun _ => none
noncomputable def code_22 : Code := (Tryz.f22.body).getD .skip
noncomputable def E_Q_locator (g : C_Q_locator) : Env A := mkE [(40, SS_Q_Square g.Q_Square)] [] [] [] [] [] [] [] [] []
theorem sm_Q_locator (g : C_Q_locator) : Same (SS_Q_locator (@Q_locator_ g)) (abody (E_Q_locator g) Tryz.f22 code_22 0 [] [.asis] g.N) := by intro args; unfold SS_Q_locator; split; exact .inr fun R k => (by kernel_rfl); exact .inl fun R k => rfl
theorem ok_Q_locator [Fuel] : Ok 22 (SS_Q_locator (@Q_locator _)) := okF_of std (.cons ok_Q_Square .nil) ⟨rfl, rfl, by kernel_rfl, rfl, rfl, rfl⟩ (sm_Q_locator I_Q_locator) (cuts0 (fun _ => rfl) (by kernel_rfl)) Tryz.func22 (by kernel_rfl) (by kernel_rfl)
end Go.Am
