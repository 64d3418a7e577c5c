/- The functions of the program as Lean functions, each shown to be what the code computes, part 3. No condition: lemmas for the claim. -/
import Derived.Test.YtoajjnhmofegcaaGreatDoorF0
import Derived.Test.YtoajjnhmofegcaaGreatDoorFSh
import Derived.Test.YtoajjnhmofegcaaGreatDoorF1
import Derived.Test.YtoajjnhmofegcaaGreatDoorF2
set_option linter.unusedVariables false
set_option maxRecDepth 100000
namespace Go.Am
open Go Go.Proofs
abbrev T_utf8_DecodeLastRuneInString : Type 1 := List UInt8 → {R : Type} → (Int → Int → Option R) → Option R
structure C_utf8_DecodeLastRuneInString where
 N : Nat
 utf8_DecodeRuneInString : T_utf8_DecodeRuneInString
 utf8_RuneStart : T_utf8_RuneStart
def utf8_DecodeLastRuneInString_L10 (g : C_utf8_DecodeLastRuneInString) : Nat → List UInt8 → Int → Int → Int → {R : Type} → (List UInt8 → Int → Int → Option R) → Option R
 | 0, _, _, _, _, _, _ => none
 | n + 1, v3, v4, v5, v6, _, e0 => (bif (decide (v5 ≥ v6)) then (get_ v3 v5 fun x8 => (g.utf8_RuneStart (x8.toNat : Int))) else e0 v3 v4 v5)
def utf8_DecodeLastRuneInString_ (g : C_utf8_DecodeLastRuneInString) (a1 : List UInt8) {R : Type} (k0 : Int → Int → Option R) : Option R :=
 (bif ((a1.length : Int) == 0) then k0 65533 0 else (get_ a1 (w64 ((a1.length : Int) - 1)) fun x2 => (bif (decide ((IntKind.i32.wrap (x2.toNat : Int)) < 128)) then k0 (IntKind.i32.wrap (x2.toNat : Int)) 1 else (utf8_DecodeLastRuneInString_L10 g g.N a1 (a1.length : Int) (w64 ((w64 ((a1.length : Int) - 1)) - 1)) (if 0 > (w64 ((a1.length : Int) - 4)) then 0 else (w64 ((a1.length : Int) - 4))) (fun e9 e10 e11 => (bif (decide (e11 < 0)) then (bif (decide (0 ≤ 0) && (decide (0 ≤ e10) && decide (e10 ≤ (e9.length : Int)))) then (g.utf8_DecodeRuneInString ((e9.take (e10 : Int).toNat).drop (0 : Int).toNat) (fun r12 r13 => (bif ((w64 (0 + r13)) != e10) then k0 65533 1 else k0 r12 r13))) else none) else (bif (decide (0 ≤ e11) && (decide (e11 ≤ e10) && decide (e10 ≤ (e9.length : Int)))) then (g.utf8_DecodeRuneInString ((e9.take (e10 : Int).toNat).drop (e11 : Int).toNat) (fun r14 r15 => (bif ((w64 (e11 + r15)) != e10) then k0 65533 1 else k0 r14 r15))) else none)))))))
noncomputable def I_utf8_DecodeLastRuneInString [Fuel] : C_utf8_DecodeLastRuneInString := ⟨NN, @utf8_DecodeRuneInString _, @utf8_RuneStart _⟩
noncomputable def utf8_DecodeLastRuneInString [Fuel] : T_utf8_DecodeLastRuneInString := @utf8_DecodeLastRuneInString_ I_utf8_DecodeLastRuneInString
def SS_utf8_DecodeLastRuneInString (g : T_utf8_DecodeLastRuneInString) : Spec A := fun args => match args with | [.d (.str a1)] => fun k => g a1 (fun z0 z1 => k (.tup [.d (.int .i32 z0), .d (.int .i64 z1)]) [.undef]) | _ => fun _ => none
def sh_utf8_DecodeLastRuneInString_L10 : SSt := mkSh 51 0 [(0, .str), (4, .int .i64), (5, .int .i64), (6, .int .i64)] []
def LP_utf8_DecodeLastRuneInString_L10 (g : C_utf8_DecodeLastRuneInString) (n : Nat) : LPT A := fun ps => match ps with | [.d (.str p1), .d (.int .i64 p2), .d (.int .i64 p3), .d (.int .i64 p4)] => fun K => utf8_DecodeLastRuneInString_L10 g n p1 p2 p3 p4 (fun z0 z1 z2 => K (.exit 0) (mkSt 51 0 [(0, .d (.str z0)), (4, .d (.int .i64 z1)), (5, .d (.int .i64 z2))] [])) | _ => fun _ => none
noncomputable def code_274 : Code := (Tryz.f274.body).getD .skip
noncomputable def E_utf8_DecodeLastRuneInString (g : C_utf8_DecodeLastRuneInString) : Env A := mkE [(262, SS_utf8_DecodeRuneInString g.utf8_DecodeRuneInString), (304, SS_utf8_RuneStart g.utf8_RuneStart)] [] [(10, ⟨[0, 4, 5, 6], [], [], [], [], [], []⟩)] [(10, ⟨[0, 4, 5], [], [], [], [], [], []⟩)] [(10, pieceOf sh_utf8_DecodeLastRuneInString_L10 (LP_utf8_DecodeLastRuneInString_L10 g g.N))] [] [] [] [] []
theorem ct_utf8_DecodeLastRuneInString [Fuel] : NatTab (E_utf8_DecodeLastRuneInString I_utf8_DecodeLastRuneInString).C := ct_of (P := Tryz.prog) (T := T) (.cons ok_utf8_DecodeRuneInString (.cons ok_utf8_RuneStart .nil)) (by kernel_rfl)
noncomputable def cb_utf8_DecodeLastRuneInString_L10 : Code := sub [1, 1, 1, 1, 1, 1, 1, 0, 1, 0, 0] code_274
theorem s_utf8_DecodeLastRuneInString_L10 (g : C_utf8_DecodeLastRuneInString) (n : Nat) : StepOk (E_utf8_DecodeLastRuneInString g) g.N cb_utf8_DecodeLastRuneInString_L10 sh_utf8_DecodeLastRuneInString_L10 (LP_utf8_DecodeLastRuneInString_L10 g) n := by intro ps; unfold LP_utf8_DecodeLastRuneInString_L10; split; exact .inr fun R K => (by kernel_rfl); exact .inl fun R K => rfl
theorem lf_utf8_DecodeLastRuneInString_L10 [Fuel] : LoopFine (E_utf8_DecodeLastRuneInString I_utf8_DecodeLastRuneInString) NN cb_utf8_DecodeLastRuneInString_L10 := fine_loop sh_utf8_DecodeLastRuneInString_L10 (LP_utf8_DecodeLastRuneInString_L10 I_utf8_DecodeLastRuneInString) (by kernel_rfl) ct_utf8_DecodeLastRuneInString (cuts0 (fun _ => rfl) (by kernel_rfl)) (fun ps R K => by unfold LP_utf8_DecodeLastRuneInString_L10; split <;> (try unfold utf8_DecodeLastRuneInString_L10) <;> rfl) (s_utf8_DecodeLastRuneInString_L10 I_utf8_DecodeLastRuneInString)
theorem sm_utf8_DecodeLastRuneInString (g : C_utf8_DecodeLastRuneInString) : Same (SS_utf8_DecodeLastRuneInString (@utf8_DecodeLastRuneInString_ g)) (abody (E_utf8_DecodeLastRuneInString g) Tryz.f274 code_274 0 [] [.asis, .asis] g.N) := by intro args; unfold SS_utf8_DecodeLastRuneInString; split; exact .inr fun R k => (by kernel_rfl); exact .inl fun R k => rfl
theorem ok_utf8_DecodeLastRuneInString [Fuel] : Ok 274 (SS_utf8_DecodeLastRuneInString (@utf8_DecodeLastRuneInString _)) := okF_of std (.cons ok_utf8_DecodeRuneInString (.cons ok_utf8_RuneStart .nil)) ⟨rfl, rfl, by kernel_rfl, rfl, rfl, rfl⟩ (sm_utf8_DecodeLastRuneInString I_utf8_DecodeLastRuneInString) (cutsL (fun _ => rfl) (.cons lf_utf8_DecodeLastRuneInString_L10 .nil) (by kernel_rfl)) Tryz.func274 (by kernel_rfl) (by kernel_rfl)
abbrev T_strings_LastIndexAny_w : Type 1 := List UInt8 → List UInt8 → {R : Type} → (Int → Option R) → Option R
structure C_strings_LastIndexAny_w where
 N : Nat
 strings_makeASCIISet : T_strings_makeASCIISet
 utf8_DecodeLastRuneInString : T_utf8_DecodeLastRuneInString
 strings_IndexRune : T_strings_IndexRune
 strings_shouldUseASCIISet : T_strings_shouldUseASCIISet
def strings_LastIndexAny_w_L24 (g : C_strings_LastIndexAny_w) : Nat → List UInt8 → Int → Int → {R : Type} → (Int → Option R) → Option R → Option R
 | 0, _, _, _, _, _, _ => none
 | n + 1, v8, v9, v10, _, e0, e1 => (bif (decide (v10 > 0)) then (bif (decide (0 ≤ v10) && decide (v10 ≤ (v8.length : Int))) then (g.utf8_DecodeLastRuneInString (v8.take (v10 : Int).toNat) (fun r13 r14 => (bif (v9 == r13) then e0 (w64 (v10 - r14)) else strings_LastIndexAny_w_L24 g n v8 v9 (w64 (v10 - r14)) e0 e1))) else none) else e1)
def strings_LastIndexAny_w_L31 (g : C_strings_LastIndexAny_w) : Nat → List UInt8 → List UInt8 → Int → {R : Type} → (Int → Option R) → Option R → Option R
 | 0, _, _, _, _, _, _ => none
 | n + 1, v17, v18, v19, _, e0, e1 => (bif (decide (v19 > 0)) then (bif (decide (0 ≤ v19) && decide (v19 ≤ (v17.length : Int))) then (g.utf8_DecodeLastRuneInString (v17.take (v19 : Int).toNat) (fun r23 r24 => (g.strings_IndexRune v18 r23 (fun r25 => (bif (decide (r25 ≥ 0)) then e0 (w64 (v19 - r24)) else strings_LastIndexAny_w_L31 g n v17 v18 (w64 (v19 - r24)) e0 e1))))) else none) else e1)
def strings_LastIndexAny_w_ (g : C_strings_LastIndexAny_w) (a1 a2 : List UInt8) {R : Type} (k0 : Int → Option R) : Option R :=
 (bif (a2 == []) then k0 (-1) else (bif ((a1.length : Int) == 1) then (at_ a1 0 fun x3 => (bif (decide ((IntKind.i32.wrap (x3.toNat : Int)) ≥ 128)) then (g.strings_IndexRune a2 65533 (fun r4 => (bif (decide (r4 ≥ 0)) then k0 0 else k0 (-1)))) else (g.strings_IndexRune a2 (IntKind.i32.wrap (x3.toNat : Int)) (fun r5 => (bif (decide (r5 ≥ 0)) then k0 0 else k0 (-1)))))) else (g.strings_shouldUseASCIISet (a1.length : Int) (fun r6 => (bif r6 then (g.strings_makeASCIISet a2) else (bif ((a2.length : Int) == 1) then (at_ a2 0 fun x7 => (bif (decide ((IntKind.i32.wrap (x7.toNat : Int)) ≥ 128)) then (strings_LastIndexAny_w_L24 g g.N a1 65533 (a1.length : Int) (fun e15 => k0 e15) (k0 (-1))) else (strings_LastIndexAny_w_L24 g g.N a1 (IntKind.i32.wrap (x7.toNat : Int)) (a1.length : Int) (fun e16 => k0 e16) (k0 (-1))))) else (strings_LastIndexAny_w_L31 g g.N a1 a2 (a1.length : Int) (fun e26 => k0 e26) (k0 (-1)))))))))
noncomputable def I_strings_LastIndexAny_w [Fuel] : C_strings_LastIndexAny_w := ⟨NN, @strings_makeASCIISet _, @utf8_DecodeLastRuneInString _, @strings_IndexRune _, @strings_shouldUseASCIISet _⟩
noncomputable def strings_LastIndexAny_w [Fuel] : T_strings_LastIndexAny_w := @strings_LastIndexAny_w_ I_strings_LastIndexAny_w
def SS_strings_LastIndexAny_w (g : T_strings_LastIndexAny_w) : Spec A := fun args => match args with | [.d (.str a1), .d (.str a2)] => fun k => g a1 a2 (fun z0 => k (.d (.int .i64 z0)) [.undef, .undef]) | _ => fun _ => none
def sh_strings_LastIndexAny_w_L24 : SSt := mkSh 96 0 [(0, .str), (9, .int .i32), (10, .int .i64)] []
def LP_strings_LastIndexAny_w_L24 (g : C_strings_LastIndexAny_w) (n : Nat) : LPT A := fun ps => match ps with | [.d (.str p1), .d (.int .i32 p2), .d (.int .i64 p3)] => fun K => strings_LastIndexAny_w_L24 g n p1 p2 p3 (fun z0 => K .ret (mkSt 96 0 [(4, .d (.int .i64 z0))] [])) (K (.exit 2) (mkSt 96 0 [] [])) | _ => fun _ => none
def sh_strings_LastIndexAny_w_L31 : SSt := mkSh 96 0 [(0, .str), (1, .str), (13, .int .i64)] []
def LP_strings_LastIndexAny_w_L31 (g : C_strings_LastIndexAny_w) (n : Nat) : LPT A := fun ps => match ps with | [.d (.str p1), .d (.str p2), .d (.int .i64 p3)] => fun K => strings_LastIndexAny_w_L31 g n p1 p2 p3 (fun z0 => K .ret (mkSt 96 0 [(4, .d (.int .i64 z0))] [])) (K (.exit 4) (mkSt 96 0 [] [])) | _ => fun _ => none
noncomputable def code_235 : Code := (Tryz.f235.body).getD .skip
noncomputable def E_strings_LastIndexAny_w (g : C_strings_LastIndexAny_w) : Env A := mkE [(226, SS_strings_makeASCIISet g.strings_makeASCIISet), (274, SS_utf8_DecodeLastRuneInString g.utf8_DecodeLastRuneInString), (280, SS_strings_IndexRune g.strings_IndexRune), (281, SS_strings_shouldUseASCIISet g.strings_shouldUseASCIISet)] [] [(24, ⟨[0, 9, 10], [], [], [], [], [], []⟩), (31, ⟨[0, 1, 13], [], [], [], [], [], []⟩)] [(24, ⟨[4], [], [], [], [], [], []⟩), (31, ⟨[4], [], [], [], [], [], []⟩)] [(24, pieceOf sh_strings_LastIndexAny_w_L24 (LP_strings_LastIndexAny_w_L24 g g.N)), (31, pieceOf sh_strings_LastIndexAny_w_L31 (LP_strings_LastIndexAny_w_L31 g g.N))] [] [] [] [] []
theorem ct_strings_LastIndexAny_w [Fuel] : NatTab (E_strings_LastIndexAny_w I_strings_LastIndexAny_w).C := ct_of (P := Tryz.prog) (T := T) (.cons ok_strings_makeASCIISet (.cons ok_utf8_DecodeLastRuneInString (.cons ok_strings_IndexRune (.cons ok_strings_shouldUseASCIISet .nil)))) (by kernel_rfl)
noncomputable def cb_strings_LastIndexAny_w_L14 : Code := sub [1, 1, 1, 0, 1, 0, 1, 1, 0, 0, 1, 0, 0] code_235
theorem lf_strings_LastIndexAny_w_L14 [Fuel] : LoopFine (E_strings_LastIndexAny_w I_strings_LastIndexAny_w) NN cb_strings_LastIndexAny_w_L14 := no_loop (by kernel_rfl)
noncomputable def cb_strings_LastIndexAny_w_L24 : Code := sub [1, 1, 1, 1, 0, 1, 0, 1, 1, 0, 1, 0, 0] code_235
theorem s_strings_LastIndexAny_w_L24 (g : C_strings_LastIndexAny_w) (n : Nat) : StepOk (E_strings_LastIndexAny_w g) g.N cb_strings_LastIndexAny_w_L24 sh_strings_LastIndexAny_w_L24 (LP_strings_LastIndexAny_w_L24 g) n := by intro ps; unfold LP_strings_LastIndexAny_w_L24; split; exact .inr fun R K => (by kernel_rfl); exact .inl fun R K => rfl
theorem lf_strings_LastIndexAny_w_L24 [Fuel] : LoopFine (E_strings_LastIndexAny_w I_strings_LastIndexAny_w) NN cb_strings_LastIndexAny_w_L24 := fine_loop sh_strings_LastIndexAny_w_L24 (LP_strings_LastIndexAny_w_L24 I_strings_LastIndexAny_w) (by kernel_rfl) ct_strings_LastIndexAny_w (cuts0 (fun _ => rfl) (by kernel_rfl)) (fun ps R K => by unfold LP_strings_LastIndexAny_w_L24; split <;> (try unfold strings_LastIndexAny_w_L24) <;> rfl) (s_strings_LastIndexAny_w_L24 I_strings_LastIndexAny_w)
noncomputable def cb_strings_LastIndexAny_w_L31 : Code := sub [1, 1, 1, 1, 1, 0, 1, 0, 0] code_235
theorem s_strings_LastIndexAny_w_L31 (g : C_strings_LastIndexAny_w) (n : Nat) : StepOk (E_strings_LastIndexAny_w g) g.N cb_strings_LastIndexAny_w_L31 sh_strings_LastIndexAny_w_L31 (LP_strings_LastIndexAny_w_L31 g) n := by intro ps; unfold LP_strings_LastIndexAny_w_L31; split; exact .inr fun R K => (by kernel_rfl); exact .inl fun R K => rfl
theorem lf_strings_LastIndexAny_w_L31 [Fuel] : LoopFine (E_strings_LastIndexAny_w I_strings_LastIndexAny_w) NN cb_strings_LastIndexAny_w_L31 := fine_loop sh_strings_LastIndexAny_w_L31 (LP_strings_LastIndexAny_w_L31 I_strings_LastIndexAny_w) (by kernel_rfl) ct_strings_LastIndexAny_w (cuts0 (fun _ => rfl) (by kernel_rfl)) (fun ps R K => by unfold LP_strings_LastIndexAny_w_L31; split <;> (try unfold strings_LastIndexAny_w_L31) <;> rfl) (s_strings_LastIndexAny_w_L31 I_strings_LastIndexAny_w)
theorem sm_strings_LastIndexAny_w (g : C_strings_LastIndexAny_w) : Same (SS_strings_LastIndexAny_w (@strings_LastIndexAny_w_ g)) (abody (E_strings_LastIndexAny_w g) Tryz.f235 code_235 0 [] [.asis] g.N) := by intro args; unfold SS_strings_LastIndexAny_w; split; exact .inr fun R k => (by kernel_rfl); exact .inl fun R k => rfl
theorem ok_strings_LastIndexAny_w [Fuel] : Ok 235 (SS_strings_LastIndexAny_w (@strings_LastIndexAny_w _)) := okF_of std (.cons ok_strings_makeASCIISet (.cons ok_utf8_DecodeLastRuneInString (.cons ok_strings_IndexRune (.cons ok_strings_shouldUseASCIISet .nil)))) ⟨rfl, rfl, by kernel_rfl, rfl, rfl, rfl⟩ (sm_strings_LastIndexAny_w I_strings_LastIndexAny_w) (cutsL (fun _ => rfl) (.cons lf_strings_LastIndexAny_w_L14 (.cons lf_strings_LastIndexAny_w_L24 (.cons lf_strings_LastIndexAny_w_L31 .nil))) (by kernel_rfl)) Tryz.func235 (by kernel_rfl) (by kernel_rfl)
abbrev T_strings_LastIndexAny : Type 1 := List UInt8 → List UInt8 → {R : Type} → (Int → Option R) → Option R
noncomputable def strings_LastIndexAny [Fuel] : T_strings_LastIndexAny := X_lia (@strings_LastIndexAny_w _)
def SS_strings_LastIndexAny (g : T_strings_LastIndexAny) : Spec A := SSX_lia g
theorem h1_strings_LastIndexAny [Fuel] (a b : List UInt8) (R : Type) (k : IV A → List (IV A) → Option R) : SS_strings_LastIndexAny_w (@strings_LastIndexAny_w _) [.d (.str a), .d (.str b)] k = @strings_LastIndexAny_w _ a b R (fun z => k (.d (.int .i64 z)) [.undef, .undef]) := by kernel_rfl
theorem ok_strings_LastIndexAny [Fuel] : Ok 235 (SS_strings_LastIndexAny (@strings_LastIndexAny _)) := ⟨lia_fs (lia_sound rfl (fun s c w h1 h2 h3 h4 h5 => (Go.Proofs.Tryz.lia s c w h1 h2 h3 h4 h5).mono (fun e w h => ⟨h.1, _, _, _, _, h.2⟩))) ok_strings_LastIndexAny_w.fs h1_strings_LastIndexAny, lia_na ok_strings_LastIndexAny_w.na h1_strings_LastIndexAny, enters_of (fn := Tryz.f235) Tryz.func235 (by kernel_rfl) (by kernel_rfl)⟩
abbrev T_R_in : Type 1 := Int → Int → Int → {R : Type} → (Bool → Option R) → Option R
def R_in_ (g : Nat) (a1 a2 a3 : Int) {R : Type} (k0 : Bool → Option R) : Option R :=
 (bif (decide (a2 ≤ a1)) then k0 (decide (a1 ≤ a3)) else k0 false)
noncomputable def R_in [Fuel] : T_R_in := @R_in_ NN
def SS_R_in (g : T_R_in) : Spec A := fun args => match args with | [.d (.int .i64 a1), .d (.int .i64 a2), .d (.int .i64 a3)] => fun k => g a1 a2 a3 (fun z0 => k (.d (.bool z0)) [.undef, .undef, .undef]) | _ => fun _ => none
noncomputable def code_237 : Code := (Tryz.f237.body).getD .skip
noncomputable def E_R_in (g : Nat) : Env A := mkE [] [] [] [] [] [] [] [] [] []
theorem sm_R_in (g : Nat) : Same (SS_R_in (@R_in_ g)) (abody (E_R_in g) Tryz.f237 code_237 0 [] [.asis] g) := by intro args; unfold SS_R_in; split; exact .inr fun R k => (by kernel_rfl); exact .inl fun R k => rfl
theorem ok_R_in [Fuel] : Ok 237 (SS_R_in (@R_in _)) := okF_of std .nil ⟨rfl, rfl, by kernel_rfl, rfl, rfl, rfl⟩ (sm_R_in NN) (cuts0 (fun _ => rfl) (by kernel_rfl)) Tryz.func237 (by kernel_rfl) (by kernel_rfl)
abbrev T_strings_Trim : Type 1 := List UInt8 → List UInt8 → {R : Type} → (List UInt8 → Option R) → Option R
def strings_Trim [Fuel] : T_strings_Trim := @X_trim
def SS_strings_Trim (g : T_strings_Trim) : Spec A := SSX_trim g
theorem ok_strings_Trim [Fuel] : Ok 179 (SS_strings_Trim (@strings_Trim _)) := ⟨ssx_trim_sound (trim_sound rfl (fun s cs w h1 h2 h3 => Any.strings_Trim_laid Tryz.lays160 (by kernel_rfl) s cs w h1 h2 h3)), ssx_trim_nat, enters_of (fn := Tryz.f179) Tryz.func179 (by kernel_rfl) (by kernel_rfl)⟩
abbrev T_strings_ContainsAny : Type 1 := List UInt8 → List UInt8 → {R : Type} → (Bool → Option R) → Option R
def strings_ContainsAny [Fuel] : T_strings_ContainsAny := @X_cany
def SS_strings_ContainsAny (g : T_strings_ContainsAny) : Spec A := SSX_cany g
theorem ok_strings_ContainsAny [Fuel] : Ok 238 (SS_strings_ContainsAny (@strings_ContainsAny _)) := ⟨ssx_cany_sound (cany_sound rfl (fun s cs w h1 h2 h3 h4 => Any.strings_ContainsAny_laid Tryz.lays150 (by kernel_rfl) s cs w h1 h2 h3 h4)), ssx_cany_nat, enters_of (fn := Tryz.f238) Tryz.func238 (by kernel_rfl) (by kernel_rfl)⟩
abbrev T_R_plain : Type 1 := List UInt8 → Int → Int → {R : Type} → (Bool → Option R) → Option R
structure C_R_plain where
 N : Nat
 strings_Trim : T_strings_Trim
 R_in : T_R_in
 strings_ContainsAny : T_strings_ContainsAny
def R_plain_ (g : C_R_plain) (a1 : List UInt8) (a2 a3 : Int) {R : Type} (k0 : Bool → Option R) : Option R :=
 (g.R_in (a1.length : Int) a2 a3 (fun r4 => (bif r4 then (g.strings_Trim a1 [97, 98, 99, 100, 101, 102, 103, 104, 105, 106, 107, 108, 109, 110, 111, 112, 113, 114, 115, 116, 117, 118, 119, 120, 121, 122, 48, 49, 50, 51, 52, 53, 54, 55, 56, 57] (fun r5 => (bif (r5 == []) then (g.strings_ContainsAny a1 [97, 98, 99, 100, 101, 102, 103, 104, 105, 106, 107, 108, 109, 110, 111, 112, 113, 114, 115, 116, 117, 118, 119, 120, 121, 122] (fun r6 => k0 r6)) else k0 false))) else k0 false)))
noncomputable def I_R_plain [Fuel] : C_R_plain := ⟨NN, @strings_Trim _, @R_in _, @strings_ContainsAny _⟩
noncomputable def R_plain [Fuel] : T_R_plain := @R_plain_ I_R_plain
def SS_R_plain (g : T_R_plain) : Spec A := fun args => match args with | [.d (.str a1), .d (.int .i64 a2), .d (.int .i64 a3)] => fun k => g a1 a2 a3 (fun z0 => k (.d (.bool z0)) [.undef, .undef, .undef]) | _ => fun _ => none
noncomputable def code_236 : Code := (Tryz.f236.body).getD .skip
noncomputable def E_R_plain (g : C_R_plain) : Env A := mkE [(179, SS_strings_Trim g.strings_Trim), (237, SS_R_in g.R_in), (238, SS_strings_ContainsAny g.strings_ContainsAny)] [] [] [] [] [] [] [] [] []
theorem sm_R_plain (g : C_R_plain) : Same (SS_R_plain (@R_plain_ g)) (abody (E_R_plain g) Tryz.f236 code_236 0 [] [.asis] g.N) := by intro args; unfold SS_R_plain; split; exact .inr fun R k => (by kernel_rfl); exact .inl fun R k => rfl
theorem ok_R_plain [Fuel] : Ok 236 (SS_R_plain (@R_plain _)) := okF_of std (.cons ok_strings_Trim (.cons ok_R_in (.cons ok_strings_ContainsAny .nil))) ⟨rfl, rfl, by kernel_rfl, rfl, rfl, rfl⟩ (sm_R_plain I_R_plain) (cuts0 (fun _ => rfl) (by kernel_rfl)) Tryz.func236 (by kernel_rfl) (by kernel_rfl)
abbrev T_R_baseAt : Type 1 := List UInt8 → {R : Type} → (Int → Option R) → Option R
structure C_R_baseAt where
 N : Nat
 strings_LastIndexAny : T_strings_LastIndexAny
 R_plain : T_R_plain
 R_in : T_R_in
 strings_ContainsAny : T_strings_ContainsAny
def R_baseAt_ (g : C_R_baseAt) (a1 : List UInt8) {R : Type} (k0 : Int → Option R) : Option R :=
 (g.strings_LastIndexAny a1 [48, 49, 50, 51, 52, 53, 54, 55, 56, 57] (fun r2 => (g.R_plain a1 3 10 (fun r3 => (bif (!r3) then k0 (-1) else (g.R_in r2 1 3 (fun r4 => (bif (!r4) then k0 (-1) else (g.R_in (w64 ((w64 ((a1.length : Int) - 1)) - r2)) 1 4 (fun r5 => (bif (!r5) then k0 (-1) else (bif (decide (0 ≤ r2) && decide (r2 ≤ (a1.length : Int))) then (g.strings_ContainsAny (a1.take (r2 : Int).toNat) [97, 98, 99, 100, 101, 102, 103, 104, 105, 106, 107, 108, 109, 110, 111, 112, 113, 114, 115, 116, 117, 118, 119, 120, 121, 122] (fun r6 => (bif (!r6) then k0 (-1) else k0 r2))) else none))))))))))))
noncomputable def I_R_baseAt [Fuel] : C_R_baseAt := ⟨NN, @strings_LastIndexAny _, @R_plain _, @R_in _, @strings_ContainsAny _⟩
noncomputable def R_baseAt [Fuel] : T_R_baseAt := @R_baseAt_ I_R_baseAt
def SS_R_baseAt (g : T_R_baseAt) : Spec A := fun args => match args with | [.d (.str a1)] => fun k => g a1 (fun z0 => k (.d (.int .i64 z0)) [.undef]) | _ => fun _ => none
noncomputable def code_182 : Code := (Tryz.f182.body).getD .skip
noncomputable def E_R_baseAt (g : C_R_baseAt) : Env A := mkE [(235, SS_strings_LastIndexAny g.strings_LastIndexAny), (236, SS_R_plain g.R_plain), (237, SS_R_in g.R_in), (238, SS_strings_ContainsAny g.strings_ContainsAny)] [] [] [] [] [] [] [] [] []
theorem sm_R_baseAt (g : C_R_baseAt) : Same (SS_R_baseAt (@R_baseAt_ g)) (abody (E_R_baseAt g) Tryz.f182 code_182 0 [] [.asis] g.N) := by intro args; unfold SS_R_baseAt; split; exact .inr fun R k => (by kernel_rfl); exact .inl fun R k => rfl
theorem ok_R_baseAt [Fuel] : Ok 182 (SS_R_baseAt (@R_baseAt _)) := okF_of std (.cons ok_strings_LastIndexAny (.cons ok_R_plain (.cons ok_R_in (.cons ok_strings_ContainsAny .nil)))) ⟨rfl, rfl, by kernel_rfl, rfl, rfl, rfl⟩ (sm_R_baseAt I_R_baseAt) (cuts0 (fun _ => rfl) (by kernel_rfl)) Tryz.func182 (by kernel_rfl) (by kernel_rfl)
abbrev T_R_PartsOf_1 : Type 1 := List UInt8 → {R : Type} → (G_Parts → Option R) → Option R
structure C_R_PartsOf_1 where
 N : Nat
 R_baseAt : T_R_baseAt
def R_PartsOf_1_ (g : C_R_PartsOf_1) (a1 : List UInt8) {R : Type} (k0 : G_Parts → Option R) : Option R :=
 (g.R_baseAt a1 (fun r2 => (bif (decide (0 ≤ (w64 (r2 + 1))) && decide ((w64 (r2 + 1)) ≤ (a1.length : Int))) then (bif (decide (0 ≤ (w64 (r2 + 1))) && decide ((w64 (r2 + 1)) ≤ (a1.length : Int))) then k0 (⟨a1, (a1.take ((w64 (r2 + 1)) : Int).toNat), (a1.drop ((w64 (r2 + 1)) : Int).toNat), 0, []⟩ : G_Parts) else none) else none)))
noncomputable def I_R_PartsOf_1 [Fuel] : C_R_PartsOf_1 := ⟨NN, @R_baseAt _⟩
noncomputable def R_PartsOf_1 [Fuel] : T_R_PartsOf_1 := @R_PartsOf_1_ I_R_PartsOf_1
def SS_R_PartsOf_1 (g : T_R_PartsOf_1) : Spec A := fun args => match args with | [.d (.str a1)] => fun k => g a1 (fun z0 => k (.agg [.d (.str z0.f_Base), .d (.str z0.f_Prefix), .d (.str z0.f_Suffix), .d (.int .i64 z0.f_Kind), .d (.str z0.f_Added)]) [.undef]) | _ => fun _ => none
noncomputable def code_181 : Code := (Tryz.f181.body).getD .skip
noncomputable def E_R_PartsOf_1 (g : C_R_PartsOf_1) : Env A := mkE [(182, SS_R_baseAt g.R_baseAt)] [(2, [0])] [] [] [] [] [] [] [] []
theorem sm_R_PartsOf_1 (g : C_R_PartsOf_1) : Same (SS_R_PartsOf_1 (@R_PartsOf_1_ g)) (abody (E_R_PartsOf_1 g) Tryz.f181 code_181 1 [] [.asis] g.N) := by intro args; unfold SS_R_PartsOf_1; split; exact .inr fun R k => (by kernel_rfl); exact .inl fun R k => rfl
theorem ok_R_PartsOf_1 [Fuel] : Ok 181 (SS_R_PartsOf_1 (@R_PartsOf_1 _)) := okF_of std (.cons ok_R_baseAt .nil) ⟨rfl, rfl, by kernel_rfl, rfl, rfl, rfl⟩ (sm_R_PartsOf_1 I_R_PartsOf_1) (cuts0 (fun _ => rfl) (by kernel_rfl)) Tryz.func181 (by kernel_rfl) (by kernel_rfl)
abbrev T_R_begin : Type 1 := List UInt8 → {R : Type} → (Bool → Option R) → Option R
structure C_R_begin where
 N : Nat
 R_plain : T_R_plain
def R_begin_ (g : C_R_begin) (a1 : List UInt8) {R : Type} (k0 : Bool → Option R) : Option R :=
 (g.R_plain a1 1 4 (fun r2 => k0 r2))
noncomputable def I_R_begin [Fuel] : C_R_begin := ⟨NN, @R_plain _⟩
noncomputable def R_begin [Fuel] : T_R_begin := @R_begin_ I_R_begin
def SS_R_begin (g : T_R_begin) : Spec A := fun args => match args with | [.d (.str a1)] => fun k => g a1 (fun z0 => k (.d (.bool z0)) [.undef]) | _ => fun _ => none
noncomputable def code_183 : Code := (Tryz.f183.body).getD .skip
noncomputable def E_R_begin (g : C_R_begin) : Env A := mkE [(236, SS_R_plain g.R_plain)] [] [] [] [] [] [] [] [] []
theorem sm_R_begin (g : C_R_begin) : Same (SS_R_begin (@R_begin_ g)) (abody (E_R_begin g) Tryz.f183 code_183 0 [] [.asis] g.N) := by intro args; unfold SS_R_begin; split; exact .inr fun R k => (by kernel_rfl); exact .inl fun R k => rfl
theorem ok_R_begin [Fuel] : Ok 183 (SS_R_begin (@R_begin _)) := okF_of std (.cons ok_R_plain .nil) ⟨rfl, rfl, by kernel_rfl, rfl, rfl, rfl⟩ (sm_R_begin I_R_begin) (cuts0 (fun _ => rfl) (by kernel_rfl)) Tryz.func183 (by kernel_rfl) (by kernel_rfl)
abbrev T_strings_Index : Type 1 := List UInt8 → List UInt8 → {R : Type} → (Int → Option R) → Option R
structure C_strings_Index where
 N : Nat
 stringslite_Index : T_stringslite_Index
def strings_Index_ (g : C_strings_Index) (a1 a2 : List UInt8) {R : Type} (k0 : Int → Option R) : Option R :=
 (g.stringslite_Index a1 a2 (fun r3 => k0 r3))
noncomputable def I_strings_Index [Fuel] : C_strings_Index := ⟨NN, @stringslite_Index _⟩
noncomputable def strings_Index [Fuel] : T_strings_Index := @strings_Index_ I_strings_Index
def SS_strings_Index (g : T_strings_Index) : Spec A := fun args => match args with | [.d (.str a1), .d (.str a2)] => fun k => g a1 a2 (fun z0 => k (.d (.int .i64 z0)) [.undef, .undef]) | _ => fun _ => none
noncomputable def code_217 : Code := (Tryz.f217.body).getD .skip
noncomputable def E_strings_Index (g : C_strings_Index) : Env A := mkE [(218, SS_stringslite_Index g.stringslite_Index)] [] [] [] [] [] [] [] [] []
theorem sm_strings_Index (g : C_strings_Index) : Same (SS_strings_Index (@strings_Index_ g)) (abody (E_strings_Index g) Tryz.f217 code_217 0 [] [.asis] g.N) := by intro args; unfold SS_strings_Index; split; exact .inr fun R k => (by kernel_rfl); exact .inl fun R k => rfl
theorem ok_strings_Index [Fuel] : Ok 217 (SS_strings_Index (@strings_Index _)) := okF_of std (.cons ok_stringslite_Index .nil) ⟨rfl, rfl, by kernel_rfl, rfl, rfl, rfl⟩ (sm_strings_Index I_strings_Index) (cuts0 (fun _ => rfl) (by kernel_rfl)) Tryz.func217 (by kernel_rfl) (by kernel_rfl)
abbrev T_strings_Contains : Type 1 := List UInt8 → List UInt8 → {R : Type} → (Bool → Option R) → Option R
structure C_strings_Contains where
 N : Nat
 strings_Index : T_strings_Index
def strings_Contains_ (g : C_strings_Contains) (a1 a2 : List UInt8) {R : Type} (k0 : Bool → Option R) : Option R :=
 (g.strings_Index a1 a2 (fun r3 => k0 (decide (r3 ≥ 0))))
noncomputable def I_strings_Contains [Fuel] : C_strings_Contains := ⟨NN, @strings_Index _⟩
noncomputable def strings_Contains [Fuel] : T_strings_Contains := @strings_Contains_ I_strings_Contains
def SS_strings_Contains (g : T_strings_Contains) : Spec A := fun args => match args with | [.d (.str a1), .d (.str a2)] => fun k => g a1 a2 (fun z0 => k (.d (.bool z0)) [.undef, .undef]) | _ => fun _ => none
noncomputable def code_184 : Code := (Tryz.f184.body).getD .skip
noncomputable def E_strings_Contains (g : C_strings_Contains) : Env A := mkE [(217, SS_strings_Index g.strings_Index)] [] [] [] [] [] [] [] [] []
theorem sm_strings_Contains (g : C_strings_Contains) : Same (SS_strings_Contains (@strings_Contains_ g)) (abody (E_strings_Contains g) Tryz.f184 code_184 0 [] [.asis] g.N) := by intro args; unfold SS_strings_Contains; split; exact .inr fun R k => (by kernel_rfl); exact .inl fun R k => rfl
theorem ok_strings_Contains [Fuel] : Ok 184 (SS_strings_Contains (@strings_Contains _)) := okF_of std (.cons ok_strings_Index .nil) ⟨rfl, rfl, by kernel_rfl, rfl, rfl, rfl⟩ (sm_strings_Contains I_strings_Contains) (cuts0 (fun _ => rfl) (by kernel_rfl)) Tryz.func184 (by kernel_rfl) (by kernel_rfl)
abbrev T_R_PartsOf : Type 1 := List UInt8 → {R : Type} → (G_Parts → Bool → Option R) → Option R
structure C_R_PartsOf where
 N : Nat
 strings_Cut : T_strings_Cut
 R_PartsOf_1 : T_R_PartsOf_1
 R_baseAt : T_R_baseAt
 R_begin : T_R_begin
 strings_Contains : T_strings_Contains
def R_PartsOf_ (g : C_R_PartsOf) (a1 : List UInt8) {R : Type} (k0 : G_Parts → Bool → Option R) : Option R :=
 (g.strings_Cut a1 [47] (fun r2 r3 r4 => (bif (decide ((a1.length : Int) > 14)) then k0 (⟨[], [], [], 0, []⟩ : G_Parts) false else (bif (!r4) then (g.R_baseAt r2 (fun r5 => (bif (decide (r5 < 0)) then k0 (⟨[], [], [], 0, []⟩ : G_Parts) false else (g.R_PartsOf_1 r2 (fun r6 => k0 r6 true))))) else (g.R_baseAt r3 (fun r7 => (bif (decide (r7 ≥ 0)) then (g.R_begin r2 (fun r8 => (bif r8 then (g.R_PartsOf_1 r3 (fun r9 => k0 (⟨r9.f_Base, r9.f_Prefix, r9.f_Suffix, 1, r2⟩ : G_Parts) true)) else (g.R_baseAt r2 (fun r10 => (bif (decide (r10 < 0)) then k0 (⟨[], [], [], 0, []⟩ : G_Parts) false else (g.R_PartsOf_1 r2 (fun r11 => (bif (r3 == [112]) then k0 (⟨r11.f_Base, r11.f_Prefix, r11.f_Suffix, 3, r11.f_Added⟩ : G_Parts) true else (bif (r3 == [109]) then k0 (⟨r11.f_Base, r11.f_Prefix, r11.f_Suffix, 4, r11.f_Added⟩ : G_Parts) true else (bif (r3 == [109, 109]) then k0 (⟨r11.f_Base, r11.f_Prefix, r11.f_Suffix, 5, r11.f_Added⟩ : G_Parts) true else (bif (r3 == [97, 109]) then k0 (⟨r11.f_Base, r11.f_Prefix, r11.f_Suffix, 6, r11.f_Added⟩ : G_Parts) true else (bif ((r3.length : Int) == 1) then (g.strings_Contains [48, 49, 50, 51, 52, 53, 54, 55, 56, 57] r3 (fun r12 => (bif r12 then k0 (⟨r11.f_Base, r11.f_Prefix, r11.f_Suffix, 2, r3⟩ : G_Parts) true else (g.R_begin r3 (fun r13 => (bif r13 then k0 (⟨r11.f_Base, r11.f_Prefix, r11.f_Suffix, 1, r3⟩ : G_Parts) true else k0 (⟨[], [], [], 0, []⟩ : G_Parts) false)))))) else (g.R_begin r3 (fun r14 => (bif r14 then k0 (⟨r11.f_Base, r11.f_Prefix, r11.f_Suffix, 1, r3⟩ : G_Parts) true else k0 (⟨[], [], [], 0, []⟩ : G_Parts) false)))))))))))))))) else (g.R_baseAt r2 (fun r15 => (bif (decide (r15 < 0)) then k0 (⟨[], [], [], 0, []⟩ : G_Parts) false else (g.R_PartsOf_1 r2 (fun r16 => (bif (r3 == [112]) then k0 (⟨r16.f_Base, r16.f_Prefix, r16.f_Suffix, 3, r16.f_Added⟩ : G_Parts) true else (bif (r3 == [109]) then k0 (⟨r16.f_Base, r16.f_Prefix, r16.f_Suffix, 4, r16.f_Added⟩ : G_Parts) true else (bif (r3 == [109, 109]) then k0 (⟨r16.f_Base, r16.f_Prefix, r16.f_Suffix, 5, r16.f_Added⟩ : G_Parts) true else (bif (r3 == [97, 109]) then k0 (⟨r16.f_Base, r16.f_Prefix, r16.f_Suffix, 6, r16.f_Added⟩ : G_Parts) true else (bif ((r3.length : Int) == 1) then (g.strings_Contains [48, 49, 50, 51, 52, 53, 54, 55, 56, 57] r3 (fun r17 => (bif r17 then k0 (⟨r16.f_Base, r16.f_Prefix, r16.f_Suffix, 2, r3⟩ : G_Parts) true else (g.R_begin r3 (fun r18 => (bif r18 then k0 (⟨r16.f_Base, r16.f_Prefix, r16.f_Suffix, 1, r3⟩ : G_Parts) true else k0 (⟨[], [], [], 0, []⟩ : G_Parts) false)))))) else (g.R_begin r3 (fun r19 => (bif r19 then k0 (⟨r16.f_Base, r16.f_Prefix, r16.f_Suffix, 1, r3⟩ : G_Parts) true else k0 (⟨[], [], [], 0, []⟩ : G_Parts) false))))))))))))))))))))
noncomputable def I_R_PartsOf [Fuel] : C_R_PartsOf := ⟨NN, @strings_Cut _, @R_PartsOf_1 _, @R_baseAt _, @R_begin _, @strings_Contains _⟩
noncomputable def R_PartsOf [Fuel] : T_R_PartsOf := @R_PartsOf_ I_R_PartsOf
def SS_R_PartsOf (g : T_R_PartsOf) : Spec A := fun args => match args with | [.d (.str a1)] => fun k => g a1 (fun z0 z1 => k (.tup [.agg [.d (.str z0.f_Base), .d (.str z0.f_Prefix), .d (.str z0.f_Suffix), .d (.int .i64 z0.f_Kind), .d (.str z0.f_Added)], .d (.bool z1)]) [.undef]) | _ => fun _ => none
noncomputable def code_140 : Code := (Tryz.f140.body).getD .skip
noncomputable def E_R_PartsOf (g : C_R_PartsOf) : Env A := mkE [(128, SS_strings_Cut g.strings_Cut), (181, SS_R_PartsOf_1 g.R_PartsOf_1), (182, SS_R_baseAt g.R_baseAt), (183, SS_R_begin g.R_begin), (184, SS_strings_Contains g.strings_Contains)] [(2, [0]), (8, [1]), (9, [2])] [] [] [] [] [] [] [] []
theorem sm_R_PartsOf (g : C_R_PartsOf) : Same (SS_R_PartsOf (@R_PartsOf_ g)) (abody (E_R_PartsOf g) Tryz.f140 code_140 3 [] [.asis, .asis] g.N) := by intro args; unfold SS_R_PartsOf; split; exact .inr fun R k => (by kernel_rfl); exact .inl fun R k => rfl
theorem ok_R_PartsOf [Fuel] : Ok 140 (SS_R_PartsOf (@R_PartsOf _)) := okF_of std (.cons ok_strings_Cut (.cons ok_R_PartsOf_1 (.cons ok_R_baseAt (.cons ok_R_begin (.cons ok_strings_Contains .nil))))) ⟨rfl, rfl, by kernel_rfl, rfl, rfl, rfl⟩ (sm_R_PartsOf I_R_PartsOf) (cuts0 (fun _ => rfl) (by kernel_rfl)) Tryz.func140 (by kernel_rfl) (by kernel_rfl)
abbrev T_Q_Call : Type 1 := List UInt8 → {R : Type} → (Bool → Option R) → Option R
structure C_Q_Call where
 N : Nat
 R_PartsOf : T_R_PartsOf
def Q_Call_ (g : C_Q_Call) (a1 : List UInt8) {R : Type} (k0 : Bool → Option R) : Option R :=
 (g.R_PartsOf a1 (fun r2 r3 => k0 r3))
noncomputable def I_Q_Call [Fuel] : C_Q_Call := ⟨NN, @R_PartsOf _⟩
noncomputable def Q_Call [Fuel] : T_Q_Call := @Q_Call_ I_Q_Call
def SS_Q_Call (g : T_Q_Call) : Spec A := fun args => match args with | [.d (.str a1)] => fun k => g a1 (fun z0 => k (.d (.bool z0)) [.undef]) | _ => fun _ => none
noncomputable def code_84 : Code := (Tryz.f84.body).getD .skip
noncomputable def E_Q_Call (g : C_Q_Call) : Env A := mkE [(140, SS_R_PartsOf g.R_PartsOf)] [(3, [0])] [] [] [] [] [] [] [] []
theorem sm_Q_Call (g : C_Q_Call) : Same (SS_Q_Call (@Q_Call_ g)) (abody (E_Q_Call g) Tryz.f84 code_84 1 [] [.asis] g.N) := by intro args; unfold SS_Q_Call; split; exact .inr fun R k => (by kernel_rfl); exact .inl fun R k => rfl
theorem ok_Q_Call [Fuel] : Ok 84 (SS_Q_Call (@Q_Call _)) := okF_of std (.cons ok_R_PartsOf .nil) ⟨rfl, rfl, by kernel_rfl, rfl, rfl, rfl⟩ (sm_Q_Call I_Q_Call) (cuts0 (fun _ => rfl) (by kernel_rfl)) Tryz.func84 (by kernel_rfl) (by kernel_rfl)
abbrev T_Q_SpotsFault : Type 1 := List G_Spot → {R : Type} → (Int → Option R) → Option R
structure C_Q_SpotsFault where
 N : Nat
 Q_Moment : T_Q_Moment
 Q_in : T_Q_in
 Q_Call : T_Q_Call
 Q_SpotOrder : T_Q_SpotOrder
def Q_SpotsFault_L4 (g : C_Q_SpotsFault) : Nat → List G_Spot → List G_Spot → Int → Int → {R : Type} → (Int → Option R) → Option R → Option R
 | 0, _, _, _, _, _, _, _ => none
 | n + 1, v2, v3, v4, v5, _, e0, e1 => (bif (decide (v5 < v4)) then (get_ v3 v5 fun x13 => (g.Q_Moment x13.f_At (fun r14 => (bif (!r14) then e0 1 else (g.Q_in x13.f_Hertz 0 30000000000 (fun r15 => (bif (!r15) then e0 1 else (g.Q_Call x13.f_Call (fun r16 => (bif (!r16) then e0 3 else (g.Q_Call x13.f_By (fun r17 => (bif (!r17) then e0 3 else (bif (decide (v5 > 0)) then (get_ v2 (w64 (v5 - 1)) fun x18 => (g.Q_SpotOrder x18 x13 (fun r19 => (bif (decide (r19 ≥ 0)) then e0 7 else Q_SpotsFault_L4 g n v2 v3 v4 (w64 (v5 + 1)) e0 e1)))) else Q_SpotsFault_L4 g n v2 v3 v4 (w64 (v5 + 1)) e0 e1)))))))))))))) else e1)
def Q_SpotsFault_ (g : C_Q_SpotsFault) (a1 : List G_Spot) {R : Type} (k0 : Int → Option R) : Option R :=
 (bif (decide ((a1.length : Int) > 2000)) then k0 2 else (Q_SpotsFault_L4 g g.N a1 a1 (a1.length : Int) 0 (fun e20 => k0 e20) (k0 0)))
noncomputable def I_Q_SpotsFault [Fuel] : C_Q_SpotsFault := ⟨NN, @Q_Moment _, @Q_in _, @Q_Call _, @Q_SpotOrder _⟩
noncomputable def Q_SpotsFault [Fuel] : T_Q_SpotsFault := @Q_SpotsFault_ I_Q_SpotsFault
def SS_Q_SpotsFault (g : T_Q_SpotsFault) : Spec A := fun args => match args with | [.d (.sl 61 a1)] => fun k => g a1 (fun z0 => k (.d (.int .i64 z0)) [.undef]) | _ => fun _ => none
def sh_Q_SpotsFault_L4 : SSt := mkSh 51 1 [(0, .sl 61), (8, .sl 61), (9, .int .i64), (10, .int .i64)] []
def LP_Q_SpotsFault_L4 (g : C_Q_SpotsFault) (n : Nat) : LPT A := fun ps => match ps with | [.d (.sl 61 p1), .d (.sl 61 p2), .d (.int .i64 p3), .d (.int .i64 p4)] => fun K => Q_SpotsFault_L4 g n p1 p2 p3 p4 (fun z0 => K .ret (mkSt 51 1 [(2, .d (.int .i64 z0))] [])) (K (.exit 0) (mkSt 51 1 [] [])) | _ => fun _ => none
noncomputable def code_29 : Code := (Tryz.f29.body).getD .skip
noncomputable def E_Q_SpotsFault (g : C_Q_SpotsFault) : Env A := mkE [(82, SS_Q_Moment g.Q_Moment), (83, SS_Q_in g.Q_in), (84, SS_Q_Call g.Q_Call), (95, SS_Q_SpotOrder g.Q_SpotOrder)] [(4, [0])] [(4, ⟨[0, 8, 9, 10], [], [], [], [], [], []⟩)] [(4, ⟨[2], [], [], [], [], [], []⟩)] [(4, pieceOf sh_Q_SpotsFault_L4 (LP_Q_SpotsFault_L4 g g.N))] [] [] [] [] []
theorem ct_Q_SpotsFault [Fuel] : NatTab (E_Q_SpotsFault I_Q_SpotsFault).C := ct_of (P := Tryz.prog) (T := T) (.cons ok_Q_Moment (.cons ok_Q_in (.cons ok_Q_Call (.cons ok_Q_SpotOrder .nil)))) (by kernel_rfl)
noncomputable def cb_Q_SpotsFault_L4 : Code := sub [1, 1, 0, 1, 0, 0] code_29
theorem s_Q_SpotsFault_L4 (g : C_Q_SpotsFault) (n : Nat) : StepOk (E_Q_SpotsFault g) g.N cb_Q_SpotsFault_L4 sh_Q_SpotsFault_L4 (LP_Q_SpotsFault_L4 g) n := by intro ps; unfold LP_Q_SpotsFault_L4; split; exact .inr fun R K => (by kernel_rfl); exact .inl fun R K => rfl
theorem lf_Q_SpotsFault_L4 [Fuel] : LoopFine (E_Q_SpotsFault I_Q_SpotsFault) NN cb_Q_SpotsFault_L4 := fine_loop sh_Q_SpotsFault_L4 (LP_Q_SpotsFault_L4 I_Q_SpotsFault) (by kernel_rfl) ct_Q_SpotsFault (cuts0 (fun _ => rfl) (by kernel_rfl)) (fun ps R K => by unfold LP_Q_SpotsFault_L4; split <;> (try unfold Q_SpotsFault_L4) <;> rfl) (s_Q_SpotsFault_L4 I_Q_SpotsFault)
theorem sm_Q_SpotsFault (g : C_Q_SpotsFault) : Same (SS_Q_SpotsFault (@Q_SpotsFault_ g)) (abody (E_Q_SpotsFault g) Tryz.f29 code_29 1 [] [.asis] g.N) := by intro args; unfold SS_Q_SpotsFault; split; exact .inr fun R k => (by kernel_rfl); exact .inl fun R k => rfl
theorem ok_Q_SpotsFault [Fuel] : Ok 29 (SS_Q_SpotsFault (@Q_SpotsFault _)) := okF_of std (.cons ok_Q_Moment (.cons ok_Q_in (.cons ok_Q_Call (.cons ok_Q_SpotOrder .nil)))) ⟨rfl, rfl, by kernel_rfl, rfl, rfl, rfl⟩ (sm_Q_SpotsFault I_Q_SpotsFault) (cutsL (fun _ => rfl) (.cons lf_Q_SpotsFault_L4 .nil) (by kernel_rfl)) Tryz.func29 (by kernel_rfl) (by kernel_rfl)
abbrev T_Stream_RightSpots : Type 1 := G_Stream → Int → {R : Type} → (List G_Spot → G_Stream → Option R) → Option R
structure C_Stream_RightSpots where
 N : Nat
 Stream_Spots : T_Stream_Spots
 Q_SpotsFault : T_Q_SpotsFault
def Stream_RightSpots_L2 (g : C_Stream_RightSpots) : Nat → Int → Int → G_Stream → {R : Type} → (G_Stream → List G_Spot → Option R) → (G_Stream → Option R) → Option R
 | 0, _, _, _, _, _, _ => none
 | n + 1, v3, v4, v5, _, e0, e1 => (bif (decide (v4 < 5)) then (g.Stream_Spots v5 v3 (fun r9 r10 => (g.Q_SpotsFault r9 (fun r11 => (bif (r11 == 0) then e0 r10 r9 else Stream_RightSpots_L2 g n v3 (w64 (v4 + 1)) r10 e0 e1))))) else e1 v5)
def Stream_RightSpots_ (g : C_Stream_RightSpots) (a1 : G_Stream) (a2 : Int) {R : Type} (k0 : List G_Spot → G_Stream → Option R) : Option R :=
 (Stream_RightSpots_L2 g g.N a2 0 a1 (fun e12 e13 => k0 e13 e12) (fun e14 => k0 [] e14))
noncomputable def I_Stream_RightSpots [Fuel] : C_Stream_RightSpots := ⟨NN, @Stream_Spots _, @Q_SpotsFault _⟩
noncomputable def Stream_RightSpots [Fuel] : T_Stream_RightSpots := @Stream_RightSpots_ I_Stream_RightSpots
def SS_Stream_RightSpots (g : T_Stream_RightSpots) : Spec A := fun args => match args with | [.box [.d (.sl 3 a1), .d (.int .i64 a2)], .d (.int .i64 a3)] => fun k => g ⟨a1, a2⟩ a3 (fun z0 z1 => k (.arr 61 z0) [.box [.d (.sl 3 z1.f_L), .d (.int .i64 z1.f_at)], .undef]) | _ => fun _ => none
def sh_Stream_RightSpots_L2 : SSt := mkSh 16 2 [(0, .ptr 0 0), (1, .int .i64), (6, .int .i64)] [(0, .box [.sl 3, .int .i64])]
def LP_Stream_RightSpots_L2 (g : C_Stream_RightSpots) (n : Nat) : LPT A := fun ps => match ps with | [.d (.int .i64 p1), .d (.int .i64 p2), .d (.sl 3 p3), .d (.int .i64 p4)] => fun K => Stream_RightSpots_L2 g n p1 p2 ⟨p3, p4⟩ (fun z0 z1 => K .ret (mkSt 16 2 [(0, .ptr 0 0), (4, .own 61 1)] [(0, some (.box [.d (.sl 3 z0.f_L), .d (.int .i64 z0.f_at)])), (1, some (.row 61 z1))])) (fun z0 => K (.exit 0) (mkSt 16 2 [(0, .ptr 0 0)] [(0, some (.box [.d (.sl 3 z0.f_L), .d (.int .i64 z0.f_at)]))])) | _ => fun _ => none
noncomputable def code_97 : Code := (Tryz.f97.body).getD .skip
noncomputable def E_Stream_RightSpots (g : C_Stream_RightSpots) : Env A := mkE [(26, SS_Stream_Spots g.Stream_Spots), (29, SS_Q_SpotsFault g.Q_SpotsFault)] [(10, [1])] [(2, ⟨[0, 1, 6], [], [0], [], [], [], []⟩)] [(2, ⟨[0, 4], [], [0, 1], [], [], [], []⟩)] [(2, pieceOf sh_Stream_RightSpots_L2 (LP_Stream_RightSpots_L2 g g.N))] [] [] [] [] [0]
theorem ct_Stream_RightSpots [Fuel] : NatTab (E_Stream_RightSpots I_Stream_RightSpots).C := ct_of (P := Tryz.prog) (T := T) (.cons ok_Stream_Spots (.cons ok_Q_SpotsFault .nil)) (by kernel_rfl)
noncomputable def cb_Stream_RightSpots_L2 : Code := sub [1, 0, 1, 0, 0] code_97
theorem s_Stream_RightSpots_L2 (g : C_Stream_RightSpots) (n : Nat) : StepOk (E_Stream_RightSpots g) g.N cb_Stream_RightSpots_L2 sh_Stream_RightSpots_L2 (LP_Stream_RightSpots_L2 g) n := by intro ps; unfold LP_Stream_RightSpots_L2; split; exact .inr fun R K => (by kernel_rfl); exact .inl fun R K => rfl
theorem lf_Stream_RightSpots_L2 [Fuel] : LoopFine (E_Stream_RightSpots I_Stream_RightSpots) NN cb_Stream_RightSpots_L2 := fine_loop sh_Stream_RightSpots_L2 (LP_Stream_RightSpots_L2 I_Stream_RightSpots) (by kernel_rfl) ct_Stream_RightSpots (cuts0 (fun _ => rfl) (by kernel_rfl)) (fun ps R K => by unfold LP_Stream_RightSpots_L2; split <;> (try unfold Stream_RightSpots_L2) <;> rfl) (s_Stream_RightSpots_L2 I_Stream_RightSpots)
theorem sm_Stream_RightSpots (g : C_Stream_RightSpots) : Same (SS_Stream_RightSpots (@Stream_RightSpots_ g)) (abody (E_Stream_RightSpots g) Tryz.f97 code_97 2 [0] [.arr 61] g.N) := by intro args; unfold SS_Stream_RightSpots; split; exact .inr fun R k => (by kernel_rfl); exact .inl fun R k => rfl
theorem ok_Stream_RightSpots [Fuel] : Ok 97 (SS_Stream_RightSpots (@Stream_RightSpots _)) := okF_of std (.cons ok_Stream_Spots (.cons ok_Q_SpotsFault .nil)) ⟨rfl, rfl, by kernel_rfl, rfl, rfl, rfl⟩ (sm_Stream_RightSpots I_Stream_RightSpots) (cutsL (fun _ => rfl) (.cons lf_Stream_RightSpots_L2 .nil) (by kernel_rfl)) Tryz.func97 (by kernel_rfl) (by kernel_rfl)
abbrev T_strconv_Itoa : Type 1 := Int → {R : Type} → (List UInt8 → Option R) → Option R
def strconv_Itoa [Fuel] : T_strconv_Itoa := @X_itoa
def SS_strconv_Itoa (g : T_strconv_Itoa) : Spec A := SSX_itoa g
theorem ok_strconv_Itoa [Fuel] : Ok 79 (SS_strconv_Itoa (@strconv_Itoa _)) := ⟨ssx_itoa_sound (fun w h => h) (fun n w h0 h1 ht => Any.strconv_Itoa Tryz.laysM171 n h0 h1 w ht), ssx_itoa_nat, enters_of (fn := Tryz.f79) Tryz.func79 (by kernel_rfl) (by kernel_rfl)⟩
abbrev T_strings_Join : Type 1 := List (List UInt8) → List UInt8 → {R : Type} → (List UInt8 → Option R) → Option R
def strings_Join [Fuel] : T_strings_Join := @X_join (List UInt8) (fun x => x)
def SS_strings_Join (g : T_strings_Join) : Spec A := fun args => match args with | [.d (.sl 9 a1), .d (.str a2)] => fun k => g a1 a2 (fun z => k (.d (.str z)) [.undef, .undef]) | _ => fun _ => none
theorem h1_strings_Join [Fuel] (xs : List (A 9)) (sep : List UInt8) (R : Type) (k : IV A → List (IV A) → Option R) : SS_strings_Join (@strings_Join _) [.d (.sl 9 xs), .d (.str sep)] k = X_join (α := A 9) (fun (x : List UInt8) => x) xs sep (fun z => k (.d (.str z)) [.undef, .undef]) := by kernel_rfl
theorem h2_strings_Join [Fuel] (args : List (IV A)) (R : Type) (k : IV A → List (IV A) → Option R) (h : ∀ (xs : List (A 9)) (sep : List UInt8), args ≠ [.d (.sl 9 xs), .d (.str sep)]) : SS_strings_Join (@strings_Join _) args k = none := by unfold SS_strings_Join; split; exact absurd rfl (h _ _); rfl
theorem ok_strings_Join [Fuel] : Ok 86 (SS_strings_Join (@strings_Join _)) := ⟨join_fs rfl (e := 9) (fun (x : List UInt8) => x) (fun _ => rfl) rfl (fun a c sep w => Go.Proofs.Any.strings_Join_none Tryz.lays156 Tryz.bx156 a c sep w) (fun bk o c xs sep w h1 h2 h3 h4 h5 => Go.Proofs.Any.strings_Join Tryz.lays156 Tryz.bx156 bk o c xs sep w h1 h2 h3 h4 h5) h1_strings_Join h2_strings_Join, join_na (e := 9) (fun (x : List UInt8) => x) h1_strings_Join h2_strings_Join, enters_of (fn := Tryz.f86) Tryz.func86 (by kernel_rfl) (by kernel_rfl)⟩
end Go.Am
