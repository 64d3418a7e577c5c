/- The functions of the program as Lean functions, each shown to be what the code computes, part 3. No condition: lemmas for the claim. -/
import Derived.Test.YtnlblmnoiepeaaaGreatDoorF0
import Derived.Test.YtnlblmnoiepeaaaGreatDoorFSh
import Derived.Test.YtnlblmnoiepeaaaGreatDoorF1
import Derived.Test.YtnlblmnoiepeaaaGreatDoorF2
set_option linter.unusedVariables false
set_option maxRecDepth 100000
namespace Go.Am
open Go Go.Proofs
abbrev T_z95z : Type 1 := Int → {R : Type} → Option R
def z95z_ (g : Nat) (a1 : Int) {R : Type}  : Option R :=
 none
noncomputable def z95z [Fuel] : T_z95z := @z95z_ NN
def SS_z95z (g : T_z95z) : Spec A := fun args => match args with | [.d (.int .u8 a1)] => fun k => g a1 | _ => fun _ => none
noncomputable def code_232 : Code := (Tryz.f232.body).getD .skip
noncomputable def E_z95z (g : Nat) : Env A := mkE [] [] [] [] [] [] [] [] [] []
theorem sm_z95z (g : Nat) : Same (SS_z95z (@z95z_ g)) (abody (E_z95z g) Tryz.f232 code_232 0 [] [.asis] g) := by intro args; unfold SS_z95z; split; exact .inr fun R k => (by kernel_rfl); exact .inl fun R k => rfl
theorem ok_z95z [Fuel] : Ok 232 (SS_z95z (@z95z _)) := okF_of std .nil ⟨rfl, rfl, by kernel_rfl, rfl, rfl, rfl⟩ (sm_z95z NN) (cuts0 (fun _ => rfl) (by kernel_rfl)) Tryz.func232 (by kernel_rfl) (by kernel_rfl)
abbrev T_z65z : Type 1 := List UInt8 → {R : Type} → (Int → Int → Option R) → Option R
def z65z_ (g : Nat) (a1 : List UInt8) {R : Type} (k0 : Int → Int → Option R) : Option R :=
 (bif (decide ((a1.length : Int) < 1)) then k0 65533 0 else (at_ a1 0 fun x2 => none))
noncomputable def z65z [Fuel] : T_z65z := @z65z_ NN
def SS_z65z (g : T_z65z) : Spec A := fun args => match args with | [.d (.str a1)] => fun k => g a1 (fun z0 z1 => k (.tup [.d (.int .i32 z0), .d (.int .i64 z1)]) [.undef]) | _ => fun _ => none
noncomputable def code_231 : Code := (Tryz.f231.body).getD .skip
noncomputable def E_z65z (g : Nat) : Env A := mkE [] [] [] [] [] [] [] [] [] []
theorem sm_z65z (g : Nat) : Same (SS_z65z (@z65z_ g)) (abody (E_z65z g) Tryz.f231 code_231 0 [] [.asis, .asis] g) := by intro args; unfold SS_z65z; split; exact .inr fun R k => (by kernel_rfl); exact .inl fun R k => rfl
theorem ok_z65z [Fuel] : Ok 231 (SS_z65z (@z65z _)) := okF_of std .nil ⟨rfl, rfl, by kernel_rfl, rfl, rfl, rfl⟩ (sm_z65z NN) (cuts0 (fun _ => rfl) (by kernel_rfl)) Tryz.func231 (by kernel_rfl) (by kernel_rfl)
abbrev T_z58z : Type 1 := List UInt8 → {R : Type} → (Int → Int → Option R) → Option R
structure C_z58z where
 N : Nat
 z65z : T_z65z
def z58z_ (g : C_z58z) (a1 : List UInt8) {R : Type} (k0 : Int → Int → Option R) : Option R :=
 (bif (!(a1 == [])) then (at_ a1 0 fun x2 => (bif (decide ((x2.toNat : Int) < 128)) then (at_ a1 0 fun x3 => k0 (IntKind.i32.wrap (x3.toNat : Int)) 1) else (g.z65z a1 (fun r4 r5 => k0 r4 r5)))) else (g.z65z a1 (fun r6 r7 => k0 r6 r7)))
noncomputable def I_z58z [Fuel] : C_z58z := ⟨NN, @z65z _⟩
noncomputable def z58z [Fuel] : T_z58z := @z58z_ I_z58z
def SS_z58z (g : T_z58z) : Spec A := fun args => match args with | [.d (.str a1)] => fun k => g a1 (fun z0 z1 => k (.tup [.d (.int .i32 z0), .d (.int .i64 z1)]) [.undef]) | _ => fun _ => none
noncomputable def code_203 : Code := (Tryz.f203.body).getD .skip
noncomputable def E_z58z (g : C_z58z) : Env A := mkE [(231, SS_z65z g.z65z)] [] [] [] [] [] [] [] [] []
theorem sm_z58z (g : C_z58z) : Same (SS_z58z (@z58z_ g)) (abody (E_z58z g) Tryz.f203 code_203 0 [] [.asis, .asis] g.N) := by intro args; unfold SS_z58z; split; exact .inr fun R k => (by kernel_rfl); exact .inl fun R k => rfl
theorem ok_z58z [Fuel] : Ok 203 (SS_z58z (@z58z _)) := okF_of std (.cons ok_z65z .nil) ⟨rfl, rfl, by kernel_rfl, rfl, rfl, rfl⟩ (sm_z58z I_z58z) (cuts0 (fun _ => rfl) (by kernel_rfl)) Tryz.func203 (by kernel_rfl) (by kernel_rfl)
abbrev T_z21z : Type 1 := List UInt8 → {R : Type} → (Int → Int → Option R) → Option R
structure C_z21z where
 N : Nat
 z58z : T_z58z
 z95z : T_z95z
def z21z_L10 (g : C_z21z) : Nat → List UInt8 → Int → Int → Int → {R : Type} → (List UInt8 → Int → Int → Option R) → Option R
 | 0, _, _, _, _, _, _ => none
 | n + 1, v3, v4, v5, v6, _, e0 => (bif (decide (v5 ≥ v6)) then (get_ v3 v5 fun x8 => (g.z95z (x8.toNat : Int))) else e0 v3 v4 v5)
def z21z_ (g : C_z21z) (a1 : List UInt8) {R : Type} (k0 : Int → Int → Option R) : Option R :=
 (bif ((a1.length : Int) == 0) then k0 65533 0 else (get_ a1 (w64 ((a1.length : Int) - 1)) fun x2 => (bif (decide ((IntKind.i32.wrap (x2.toNat : Int)) < 128)) then k0 (IntKind.i32.wrap (x2.toNat : Int)) 1 else (z21z_L10 g g.N a1 (a1.length : Int) (w64 ((w64 ((a1.length : Int) - 1)) - 1)) (if 0 > (w64 ((a1.length : Int) - 4)) then 0 else (w64 ((a1.length : Int) - 4))) (fun e9 e10 e11 => (bif (decide (e11 < 0)) then (bif (decide (0 ≤ 0) && (decide (0 ≤ e10) && decide (e10 ≤ (e9.length : Int)))) then (g.z58z ((e9.take (e10 : Int).toNat).drop (0 : Int).toNat) (fun r12 r13 => (bif ((w64 (0 + r13)) != e10) then k0 65533 1 else k0 r12 r13))) else none) else (bif (decide (0 ≤ e11) && (decide (e11 ≤ e10) && decide (e10 ≤ (e9.length : Int)))) then (g.z58z ((e9.take (e10 : Int).toNat).drop (e11 : Int).toNat) (fun r14 r15 => (bif ((w64 (e11 + r15)) != e10) then k0 65533 1 else k0 r14 r15))) else none)))))))
noncomputable def I_z21z [Fuel] : C_z21z := ⟨NN, @z58z _, @z95z _⟩
noncomputable def z21z [Fuel] : T_z21z := @z21z_ I_z21z
def SS_z21z (g : T_z21z) : Spec A := fun args => match args with | [.d (.str a1)] => fun k => g a1 (fun z0 z1 => k (.tup [.d (.int .i32 z0), .d (.int .i64 z1)]) [.undef]) | _ => fun _ => none
def sh_z21z_L10 : SSt := mkSh 51 0 [(0, .str), (4, .int .i64), (5, .int .i64), (6, .int .i64)] []
def LP_z21z_L10 (g : C_z21z) (n : Nat) : LPT A := fun ps => match ps with | [.d (.str p1), .d (.int .i64 p2), .d (.int .i64 p3), .d (.int .i64 p4)] => fun K => z21z_L10 g n p1 p2 p3 p4 (fun z0 z1 z2 => K (.exit 0) (mkSt 51 0 [(0, .d (.str z0)), (4, .d (.int .i64 z1)), (5, .d (.int .i64 z2))] [])) | _ => fun _ => none
noncomputable def code_205 : Code := (Tryz.f205.body).getD .skip
noncomputable def E_z21z (g : C_z21z) : Env A := mkE [(203, SS_z58z g.z58z), (232, SS_z95z g.z95z)] [] [(10, ⟨[0, 4, 5, 6], [], [], [], [], [], []⟩)] [(10, ⟨[0, 4, 5], [], [], [], [], [], []⟩)] [(10, pieceOf sh_z21z_L10 (LP_z21z_L10 g g.N))] [] [] [] [] []
theorem ct_z21z [Fuel] : NatTab (E_z21z I_z21z).C := ct_of (P := Tryz.prog) (T := T) (.cons ok_z58z (.cons ok_z95z .nil)) (by kernel_rfl)
noncomputable def cb_z21z_L10 : Code := sub [1, 1, 1, 1, 1, 1, 1, 0, 1, 0, 0] code_205
theorem s_z21z_L10 (g : C_z21z) (n : Nat) : StepOk (E_z21z g) g.N cb_z21z_L10 sh_z21z_L10 (LP_z21z_L10 g) n := by intro ps; unfold LP_z21z_L10; split; exact .inr fun R K => (by kernel_rfl); exact .inl fun R K => rfl
theorem lf_z21z_L10 [Fuel] : LoopFine (E_z21z I_z21z) NN cb_z21z_L10 := fine_loop sh_z21z_L10 (LP_z21z_L10 I_z21z) (by kernel_rfl) ct_z21z (cuts0 (fun _ => rfl) (by kernel_rfl)) (fun ps R K => by unfold LP_z21z_L10; split <;> (try unfold z21z_L10) <;> rfl) (s_z21z_L10 I_z21z)
theorem sm_z21z (g : C_z21z) : Same (SS_z21z (@z21z_ g)) (abody (E_z21z g) Tryz.f205 code_205 0 [] [.asis, .asis] g.N) := by intro args; unfold SS_z21z; split; exact .inr fun R k => (by kernel_rfl); exact .inl fun R k => rfl
theorem ok_z21z [Fuel] : Ok 205 (SS_z21z (@z21z _)) := okF_of std (.cons ok_z58z (.cons ok_z95z .nil)) ⟨rfl, rfl, by kernel_rfl, rfl, rfl, rfl⟩ (sm_z21z I_z21z) (cutsL (fun _ => rfl) (.cons lf_z21z_L10 .nil) (by kernel_rfl)) Tryz.func205 (by kernel_rfl) (by kernel_rfl)
abbrev T_z18z : Type 1 := List UInt8 → List UInt8 → {R : Type} → (Int → Option R) → Option R
structure C_z18z where
 N : Nat
 z71z : T_z71z
 z21z : T_z21z
 strings_IndexRune : T_strings_IndexRune
 z69z : T_z69z
def z18z_L24 (g : C_z18z) : Nat → List UInt8 → Int → Int → {R : Type} → (Int → Option R) → Option R → Option R
 | 0, _, _, _, _, _, _ => none
 | n + 1, v8, v9, v10, _, e0, e1 => (bif (decide (v10 > 0)) then (bif (decide (0 ≤ v10) && decide (v10 ≤ (v8.length : Int))) then (g.z21z (v8.take (v10 : Int).toNat) (fun r13 r14 => (bif (v9 == r13) then e0 (w64 (v10 - r14)) else z18z_L24 g n v8 v9 (w64 (v10 - r14)) e0 e1))) else none) else e1)
def z18z_L31 (g : C_z18z) : Nat → List UInt8 → List UInt8 → Int → {R : Type} → (Int → Option R) → Option R → Option R
 | 0, _, _, _, _, _, _ => none
 | n + 1, v17, v18, v19, _, e0, e1 => (bif (decide (v19 > 0)) then (bif (decide (0 ≤ v19) && decide (v19 ≤ (v17.length : Int))) then (g.z21z (v17.take (v19 : Int).toNat) (fun r23 r24 => (g.strings_IndexRune v18 r23 (fun r25 => (bif (decide (r25 ≥ 0)) then e0 (w64 (v19 - r24)) else z18z_L31 g n v17 v18 (w64 (v19 - r24)) e0 e1))))) else none) else e1)
def z18z_ (g : C_z18z) (a1 a2 : List UInt8) {R : Type} (k0 : Int → Option R) : Option R :=
 (bif (a2 == []) then k0 (-1) else (bif ((a1.length : Int) == 1) then (at_ a1 0 fun x3 => (bif (decide ((IntKind.i32.wrap (x3.toNat : Int)) ≥ 128)) then (g.strings_IndexRune a2 65533 (fun r4 => (bif (decide (r4 ≥ 0)) then k0 0 else k0 (-1)))) else (g.strings_IndexRune a2 (IntKind.i32.wrap (x3.toNat : Int)) (fun r5 => (bif (decide (r5 ≥ 0)) then k0 0 else k0 (-1)))))) else (g.z69z (a1.length : Int) (fun r6 => (bif r6 then (g.z71z a2) else (bif ((a2.length : Int) == 1) then (at_ a2 0 fun x7 => (bif (decide ((IntKind.i32.wrap (x7.toNat : Int)) ≥ 128)) then (z18z_L24 g g.N a1 65533 (a1.length : Int) (fun e15 => k0 e15) (k0 (-1))) else (z18z_L24 g g.N a1 (IntKind.i32.wrap (x7.toNat : Int)) (a1.length : Int) (fun e16 => k0 e16) (k0 (-1))))) else (z18z_L31 g g.N a1 a2 (a1.length : Int) (fun e26 => k0 e26) (k0 (-1)))))))))
noncomputable def I_z18z [Fuel] : C_z18z := ⟨NN, @z71z _, @z21z _, @strings_IndexRune _, @z69z _⟩
noncomputable def z18z [Fuel] : T_z18z := @z18z_ I_z18z
def SS_z18z (g : T_z18z) : Spec A := fun args => match args with | [.d (.str a1), .d (.str a2)] => fun k => g a1 a2 (fun z0 => k (.d (.int .i64 z0)) [.undef, .undef]) | _ => fun _ => none
def sh_z18z_L24 : SSt := mkSh 96 0 [(0, .str), (9, .int .i32), (10, .int .i64)] []
def LP_z18z_L24 (g : C_z18z) (n : Nat) : LPT A := fun ps => match ps with | [.d (.str p1), .d (.int .i32 p2), .d (.int .i64 p3)] => fun K => z18z_L24 g n p1 p2 p3 (fun z0 => K .ret (mkSt 96 0 [(4, .d (.int .i64 z0))] [])) (K (.exit 2) (mkSt 96 0 [] [])) | _ => fun _ => none
def sh_z18z_L31 : SSt := mkSh 96 0 [(0, .str), (1, .str), (13, .int .i64)] []
def LP_z18z_L31 (g : C_z18z) (n : Nat) : LPT A := fun ps => match ps with | [.d (.str p1), .d (.str p2), .d (.int .i64 p3)] => fun K => z18z_L31 g n p1 p2 p3 (fun z0 => K .ret (mkSt 96 0 [(4, .d (.int .i64 z0))] [])) (K (.exit 4) (mkSt 96 0 [] [])) | _ => fun _ => none
noncomputable def code_191 : Code := (Tryz.f191.body).getD .skip
noncomputable def E_z18z (g : C_z18z) : Env A := mkE [(172, SS_z71z g.z71z), (205, SS_z21z g.z21z), (224, SS_strings_IndexRune g.strings_IndexRune), (225, SS_z69z g.z69z)] [] [(24, ⟨[0, 9, 10], [], [], [], [], [], []⟩), (31, ⟨[0, 1, 13], [], [], [], [], [], []⟩)] [(24, ⟨[4], [], [], [], [], [], []⟩), (31, ⟨[4], [], [], [], [], [], []⟩)] [(24, pieceOf sh_z18z_L24 (LP_z18z_L24 g g.N)), (31, pieceOf sh_z18z_L31 (LP_z18z_L31 g g.N))] [] [] [] [] []
theorem ct_z18z [Fuel] : NatTab (E_z18z I_z18z).C := ct_of (P := Tryz.prog) (T := T) (.cons ok_z71z (.cons ok_z21z (.cons ok_strings_IndexRune (.cons ok_z69z .nil)))) (by kernel_rfl)
noncomputable def cb_z18z_L14 : Code := sub [1, 1, 1, 0, 1, 0, 1, 1, 0, 0, 1, 0, 0] code_191
theorem lf_z18z_L14 [Fuel] : LoopFine (E_z18z I_z18z) NN cb_z18z_L14 := no_loop (by kernel_rfl)
noncomputable def cb_z18z_L24 : Code := sub [1, 1, 1, 1, 0, 1, 0, 1, 1, 0, 1, 0, 0] code_191
theorem s_z18z_L24 (g : C_z18z) (n : Nat) : StepOk (E_z18z g) g.N cb_z18z_L24 sh_z18z_L24 (LP_z18z_L24 g) n := by intro ps; unfold LP_z18z_L24; split; exact .inr fun R K => (by kernel_rfl); exact .inl fun R K => rfl
theorem lf_z18z_L24 [Fuel] : LoopFine (E_z18z I_z18z) NN cb_z18z_L24 := fine_loop sh_z18z_L24 (LP_z18z_L24 I_z18z) (by kernel_rfl) ct_z18z (cuts0 (fun _ => rfl) (by kernel_rfl)) (fun ps R K => by unfold LP_z18z_L24; split <;> (try unfold z18z_L24) <;> rfl) (s_z18z_L24 I_z18z)
noncomputable def cb_z18z_L31 : Code := sub [1, 1, 1, 1, 1, 0, 1, 0, 0] code_191
theorem s_z18z_L31 (g : C_z18z) (n : Nat) : StepOk (E_z18z g) g.N cb_z18z_L31 sh_z18z_L31 (LP_z18z_L31 g) n := by intro ps; unfold LP_z18z_L31; split; exact .inr fun R K => (by kernel_rfl); exact .inl fun R K => rfl
theorem lf_z18z_L31 [Fuel] : LoopFine (E_z18z I_z18z) NN cb_z18z_L31 := fine_loop sh_z18z_L31 (LP_z18z_L31 I_z18z) (by kernel_rfl) ct_z18z (cuts0 (fun _ => rfl) (by kernel_rfl)) (fun ps R K => by unfold LP_z18z_L31; split <;> (try unfold z18z_L31) <;> rfl) (s_z18z_L31 I_z18z)
theorem sm_z18z (g : C_z18z) : Same (SS_z18z (@z18z_ g)) (abody (E_z18z g) Tryz.f191 code_191 0 [] [.asis] g.N) := by intro args; unfold SS_z18z; split; exact .inr fun R k => (by kernel_rfl); exact .inl fun R k => rfl
theorem ok_z18z [Fuel] : Ok 191 (SS_z18z (@z18z _)) := okF_of std (.cons ok_z71z (.cons ok_z21z (.cons ok_strings_IndexRune (.cons ok_z69z .nil)))) ⟨rfl, rfl, by kernel_rfl, rfl, rfl, rfl⟩ (sm_z18z I_z18z) (cutsL (fun _ => rfl) (.cons lf_z18z_L14 (.cons lf_z18z_L24 (.cons lf_z18z_L31 .nil))) (by kernel_rfl)) Tryz.func191 (by kernel_rfl) (by kernel_rfl)
abbrev T_R_in : Type 1 := Int → Int → Int → {R : Type} → (Bool → Option R) → Option R
def R_in_ (g : Nat) (a1 a2 a3 : Int) {R : Type} (k0 : Bool → Option R) : Option R :=
 (bif (decide (a2 ≤ a1)) then k0 (decide (a1 ≤ a3)) else k0 false)
noncomputable def R_in [Fuel] : T_R_in := @R_in_ NN
def SS_R_in (g : T_R_in) : Spec A := fun args => match args with | [.d (.int .i64 a1), .d (.int .i64 a2), .d (.int .i64 a3)] => fun k => g a1 a2 a3 (fun z0 => k (.d (.bool z0)) [.undef, .undef, .undef]) | _ => fun _ => none
noncomputable def code_193 : Code := (Tryz.f193.body).getD .skip
noncomputable def E_R_in (g : Nat) : Env A := mkE [] [] [] [] [] [] [] [] [] []
theorem sm_R_in (g : Nat) : Same (SS_R_in (@R_in_ g)) (abody (E_R_in g) Tryz.f193 code_193 0 [] [.asis] g) := by intro args; unfold SS_R_in; split; exact .inr fun R k => (by kernel_rfl); exact .inl fun R k => rfl
theorem ok_R_in [Fuel] : Ok 193 (SS_R_in (@R_in _)) := okF_of std .nil ⟨rfl, rfl, by kernel_rfl, rfl, rfl, rfl⟩ (sm_R_in NN) (cuts0 (fun _ => rfl) (by kernel_rfl)) Tryz.func193 (by kernel_rfl) (by kernel_rfl)
abbrev T_strings_Trim : Type 1 := List UInt8 → List UInt8 → {R : Type} → (List UInt8 → Option R) → Option R
def strings_Trim [Fuel] : T_strings_Trim := @X_trim
def SS_strings_Trim (g : T_strings_Trim) : Spec A := SSX_trim g
theorem ok_strings_Trim [Fuel] : Ok 131 (SS_strings_Trim (@strings_Trim _)) := ⟨ssx_trim_sound (trim_sound rfl (fun s cs w h1 h2 h3 => Any.strings_Trim_laid Tryz.lays160 (by kernel_rfl) s cs w h1 h2 h3)), ssx_trim_nat, enters_of (fn := Tryz.f131) Tryz.func131 (by kernel_rfl) (by kernel_rfl)⟩
abbrev T_strings_ContainsAny : Type 1 := List UInt8 → List UInt8 → {R : Type} → (Bool → Option R) → Option R
def strings_ContainsAny [Fuel] : T_strings_ContainsAny := @X_cany
def SS_strings_ContainsAny (g : T_strings_ContainsAny) : Spec A := SSX_cany g
theorem ok_strings_ContainsAny [Fuel] : Ok 194 (SS_strings_ContainsAny (@strings_ContainsAny _)) := ⟨ssx_cany_sound (cany_sound rfl (fun s cs w h1 h2 h3 h4 => Any.strings_ContainsAny_laid Tryz.lays150 (by kernel_rfl) s cs w h1 h2 h3 h4)), ssx_cany_nat, enters_of (fn := Tryz.f194) Tryz.func194 (by kernel_rfl) (by kernel_rfl)⟩
abbrev T_R_plain : Type 1 := List UInt8 → Int → Int → {R : Type} → (Bool → Option R) → Option R
structure C_R_plain where
 N : Nat
 strings_Trim : T_strings_Trim
 R_in : T_R_in
 strings_ContainsAny : T_strings_ContainsAny
def R_plain_ (g : C_R_plain) (a1 : List UInt8) (a2 a3 : Int) {R : Type} (k0 : Bool → Option R) : Option R :=
 (g.R_in (a1.length : Int) a2 a3 (fun r4 => (bif r4 then (g.strings_Trim a1 [97, 98, 99, 100, 101, 102, 103, 104, 105, 106, 107, 108, 109, 110, 111, 112, 113, 114, 115, 116, 117, 118, 119, 120, 121, 122, 48, 49, 50, 51, 52, 53, 54, 55, 56, 57] (fun r5 => (bif (r5 == []) then (g.strings_ContainsAny a1 [97, 98, 99, 100, 101, 102, 103, 104, 105, 106, 107, 108, 109, 110, 111, 112, 113, 114, 115, 116, 117, 118, 119, 120, 121, 122] (fun r6 => k0 r6)) else k0 false))) else k0 false)))
noncomputable def I_R_plain [Fuel] : C_R_plain := ⟨NN, @strings_Trim _, @R_in _, @strings_ContainsAny _⟩
noncomputable def R_plain [Fuel] : T_R_plain := @R_plain_ I_R_plain
def SS_R_plain (g : T_R_plain) : Spec A := fun args => match args with | [.d (.str a1), .d (.int .i64 a2), .d (.int .i64 a3)] => fun k => g a1 a2 a3 (fun z0 => k (.d (.bool z0)) [.undef, .undef, .undef]) | _ => fun _ => none
noncomputable def code_192 : Code := (Tryz.f192.body).getD .skip
noncomputable def E_R_plain (g : C_R_plain) : Env A := mkE [(131, SS_strings_Trim g.strings_Trim), (193, SS_R_in g.R_in), (194, SS_strings_ContainsAny g.strings_ContainsAny)] [] [] [] [] [] [] [] [] []
theorem sm_R_plain (g : C_R_plain) : Same (SS_R_plain (@R_plain_ g)) (abody (E_R_plain g) Tryz.f192 code_192 0 [] [.asis] g.N) := by intro args; unfold SS_R_plain; split; exact .inr fun R k => (by kernel_rfl); exact .inl fun R k => rfl
theorem ok_R_plain [Fuel] : Ok 192 (SS_R_plain (@R_plain _)) := okF_of std (.cons ok_strings_Trim (.cons ok_R_in (.cons ok_strings_ContainsAny .nil))) ⟨rfl, rfl, by kernel_rfl, rfl, rfl, rfl⟩ (sm_R_plain I_R_plain) (cuts0 (fun _ => rfl) (by kernel_rfl)) Tryz.func192 (by kernel_rfl) (by kernel_rfl)
abbrev T_R_baseAt : Type 1 := List UInt8 → {R : Type} → (Int → Option R) → Option R
structure C_R_baseAt where
 N : Nat
 z18z : T_z18z
 R_plain : T_R_plain
 R_in : T_R_in
 strings_ContainsAny : T_strings_ContainsAny
def R_baseAt_ (g : C_R_baseAt) (a1 : List UInt8) {R : Type} (k0 : Int → Option R) : Option R :=
 (g.z18z a1 [48, 49, 50, 51, 52, 53, 54, 55, 56, 57] (fun r2 => (g.R_plain a1 3 10 (fun r3 => (bif (!r3) then k0 (-1) else (g.R_in r2 1 3 (fun r4 => (bif (!r4) then k0 (-1) else (g.R_in (w64 ((w64 ((a1.length : Int) - 1)) - r2)) 1 4 (fun r5 => (bif (!r5) then k0 (-1) else (bif (decide (0 ≤ r2) && decide (r2 ≤ (a1.length : Int))) then (g.strings_ContainsAny (a1.take (r2 : Int).toNat) [97, 98, 99, 100, 101, 102, 103, 104, 105, 106, 107, 108, 109, 110, 111, 112, 113, 114, 115, 116, 117, 118, 119, 120, 121, 122] (fun r6 => (bif (!r6) then k0 (-1) else k0 r2))) else none))))))))))))
noncomputable def I_R_baseAt [Fuel] : C_R_baseAt := ⟨NN, @z18z _, @R_plain _, @R_in _, @strings_ContainsAny _⟩
noncomputable def R_baseAt [Fuel] : T_R_baseAt := @R_baseAt_ I_R_baseAt
def SS_R_baseAt (g : T_R_baseAt) : Spec A := fun args => match args with | [.d (.str a1)] => fun k => g a1 (fun z0 => k (.d (.int .i64 z0)) [.undef]) | _ => fun _ => none
noncomputable def code_156 : Code := (Tryz.f156.body).getD .skip
noncomputable def E_R_baseAt (g : C_R_baseAt) : Env A := mkE [(191, SS_z18z g.z18z), (192, SS_R_plain g.R_plain), (193, SS_R_in g.R_in), (194, SS_strings_ContainsAny g.strings_ContainsAny)] [] [] [] [] [] [] [] [] []
theorem sm_R_baseAt (g : C_R_baseAt) : Same (SS_R_baseAt (@R_baseAt_ g)) (abody (E_R_baseAt g) Tryz.f156 code_156 0 [] [.asis] g.N) := by intro args; unfold SS_R_baseAt; split; exact .inr fun R k => (by kernel_rfl); exact .inl fun R k => rfl
theorem ok_R_baseAt [Fuel] : Ok 156 (SS_R_baseAt (@R_baseAt _)) := okF_of std (.cons ok_z18z (.cons ok_R_plain (.cons ok_R_in (.cons ok_strings_ContainsAny .nil)))) ⟨rfl, rfl, by kernel_rfl, rfl, rfl, rfl⟩ (sm_R_baseAt I_R_baseAt) (cuts0 (fun _ => rfl) (by kernel_rfl)) Tryz.func156 (by kernel_rfl) (by kernel_rfl)
abbrev T_z90z : Type 1 := List UInt8 → {R : Type} → (G_Parts → Option R) → Option R
structure C_z90z where
 N : Nat
 R_baseAt : T_R_baseAt
def z90z_ (g : C_z90z) (a1 : List UInt8) {R : Type} (k0 : G_Parts → Option R) : Option R :=
 (g.R_baseAt a1 (fun r2 => (bif (decide (0 ≤ (w64 (r2 + 1))) && decide ((w64 (r2 + 1)) ≤ (a1.length : Int))) then (bif (decide (0 ≤ (w64 (r2 + 1))) && decide ((w64 (r2 + 1)) ≤ (a1.length : Int))) then k0 (⟨a1, (a1.take ((w64 (r2 + 1)) : Int).toNat), (a1.drop ((w64 (r2 + 1)) : Int).toNat), 0, []⟩ : G_Parts) else none) else none)))
noncomputable def I_z90z [Fuel] : C_z90z := ⟨NN, @R_baseAt _⟩
noncomputable def z90z [Fuel] : T_z90z := @z90z_ I_z90z
def SS_z90z (g : T_z90z) : Spec A := fun args => match args with | [.d (.str a1)] => fun k => g a1 (fun z0 => k (.agg [.d (.str z0.f_Base), .d (.str z0.f_Prefix), .d (.str z0.f_Suffix), .d (.int .i64 z0.f_Kind), .d (.str z0.f_Added)]) [.undef]) | _ => fun _ => none
noncomputable def code_155 : Code := (Tryz.f155.body).getD .skip
noncomputable def E_z90z (g : C_z90z) : Env A := mkE [(156, SS_R_baseAt g.R_baseAt)] [(2, [0])] [] [] [] [] [] [] [] []
theorem sm_z90z (g : C_z90z) : Same (SS_z90z (@z90z_ g)) (abody (E_z90z g) Tryz.f155 code_155 1 [] [.asis] g.N) := by intro args; unfold SS_z90z; split; exact .inr fun R k => (by kernel_rfl); exact .inl fun R k => rfl
theorem ok_z90z [Fuel] : Ok 155 (SS_z90z (@z90z _)) := okF_of std (.cons ok_R_baseAt .nil) ⟨rfl, rfl, by kernel_rfl, rfl, rfl, rfl⟩ (sm_z90z I_z90z) (cuts0 (fun _ => rfl) (by kernel_rfl)) Tryz.func155 (by kernel_rfl) (by kernel_rfl)
abbrev T_R_begin : Type 1 := List UInt8 → {R : Type} → (Bool → Option R) → Option R
structure C_R_begin where
 N : Nat
 R_plain : T_R_plain
def R_begin_ (g : C_R_begin) (a1 : List UInt8) {R : Type} (k0 : Bool → Option R) : Option R :=
 (g.R_plain a1 1 4 (fun r2 => k0 r2))
noncomputable def I_R_begin [Fuel] : C_R_begin := ⟨NN, @R_plain _⟩
noncomputable def R_begin [Fuel] : T_R_begin := @R_begin_ I_R_begin
def SS_R_begin (g : T_R_begin) : Spec A := fun args => match args with | [.d (.str a1)] => fun k => g a1 (fun z0 => k (.d (.bool z0)) [.undef]) | _ => fun _ => none
noncomputable def code_157 : Code := (Tryz.f157.body).getD .skip
noncomputable def E_R_begin (g : C_R_begin) : Env A := mkE [(192, SS_R_plain g.R_plain)] [] [] [] [] [] [] [] [] []
theorem sm_R_begin (g : C_R_begin) : Same (SS_R_begin (@R_begin_ g)) (abody (E_R_begin g) Tryz.f157 code_157 0 [] [.asis] g.N) := by intro args; unfold SS_R_begin; split; exact .inr fun R k => (by kernel_rfl); exact .inl fun R k => rfl
theorem ok_R_begin [Fuel] : Ok 157 (SS_R_begin (@R_begin _)) := okF_of std (.cons ok_R_plain .nil) ⟨rfl, rfl, by kernel_rfl, rfl, rfl, rfl⟩ (sm_R_begin I_R_begin) (cuts0 (fun _ => rfl) (by kernel_rfl)) Tryz.func157 (by kernel_rfl) (by kernel_rfl)
abbrev T_strings_Index : Type 1 := List UInt8 → List UInt8 → {R : Type} → (Int → Option R) → Option R
structure C_strings_Index where
 N : Nat
 stringslite_Index : T_stringslite_Index
def strings_Index_ (g : C_strings_Index) (a1 a2 : List UInt8) {R : Type} (k0 : Int → Option R) : Option R :=
 (g.stringslite_Index a1 a2 (fun r3 => k0 r3))
noncomputable def I_strings_Index [Fuel] : C_strings_Index := ⟨NN, @stringslite_Index _⟩
noncomputable def strings_Index [Fuel] : T_strings_Index := @strings_Index_ I_strings_Index
def SS_strings_Index (g : T_strings_Index) : Spec A := fun args => match args with | [.d (.str a1), .d (.str a2)] => fun k => g a1 a2 (fun z0 => k (.d (.int .i64 z0)) [.undef, .undef]) | _ => fun _ => none
noncomputable def code_195 : Code := (Tryz.f195.body).getD .skip
noncomputable def E_strings_Index (g : C_strings_Index) : Env A := mkE [(198, SS_stringslite_Index g.stringslite_Index)] [] [] [] [] [] [] [] [] []
theorem sm_strings_Index (g : C_strings_Index) : Same (SS_strings_Index (@strings_Index_ g)) (abody (E_strings_Index g) Tryz.f195 code_195 0 [] [.asis] g.N) := by intro args; unfold SS_strings_Index; split; exact .inr fun R k => (by kernel_rfl); exact .inl fun R k => rfl
theorem ok_strings_Index [Fuel] : Ok 195 (SS_strings_Index (@strings_Index _)) := okF_of std (.cons ok_stringslite_Index .nil) ⟨rfl, rfl, by kernel_rfl, rfl, rfl, rfl⟩ (sm_strings_Index I_strings_Index) (cuts0 (fun _ => rfl) (by kernel_rfl)) Tryz.func195 (by kernel_rfl) (by kernel_rfl)
abbrev T_strings_Contains : Type 1 := List UInt8 → List UInt8 → {R : Type} → (Bool → Option R) → Option R
structure C_strings_Contains where
 N : Nat
 strings_Index : T_strings_Index
def strings_Contains_ (g : C_strings_Contains) (a1 a2 : List UInt8) {R : Type} (k0 : Bool → Option R) : Option R :=
 (g.strings_Index a1 a2 (fun r3 => k0 (decide (r3 ≥ 0))))
noncomputable def I_strings_Contains [Fuel] : C_strings_Contains := ⟨NN, @strings_Index _⟩
noncomputable def strings_Contains [Fuel] : T_strings_Contains := @strings_Contains_ I_strings_Contains
def SS_strings_Contains (g : T_strings_Contains) : Spec A := fun args => match args with | [.d (.str a1), .d (.str a2)] => fun k => g a1 a2 (fun z0 => k (.d (.bool z0)) [.undef, .undef]) | _ => fun _ => none
noncomputable def code_158 : Code := (Tryz.f158.body).getD .skip
noncomputable def E_strings_Contains (g : C_strings_Contains) : Env A := mkE [(195, SS_strings_Index g.strings_Index)] [] [] [] [] [] [] [] [] []
theorem sm_strings_Contains (g : C_strings_Contains) : Same (SS_strings_Contains (@strings_Contains_ g)) (abody (E_strings_Contains g) Tryz.f158 code_158 0 [] [.asis] g.N) := by intro args; unfold SS_strings_Contains; split; exact .inr fun R k => (by kernel_rfl); exact .inl fun R k => rfl
theorem ok_strings_Contains [Fuel] : Ok 158 (SS_strings_Contains (@strings_Contains _)) := okF_of std (.cons ok_strings_Index .nil) ⟨rfl, rfl, by kernel_rfl, rfl, rfl, rfl⟩ (sm_strings_Contains I_strings_Contains) (cuts0 (fun _ => rfl) (by kernel_rfl)) Tryz.func158 (by kernel_rfl) (by kernel_rfl)
abbrev T_R_PartsOf : Type 1 := List UInt8 → {R : Type} → (G_Parts → Bool → Option R) → Option R
structure C_R_PartsOf where
 N : Nat
 z88z : T_z88z
 z90z : T_z90z
 R_baseAt : T_R_baseAt
 R_begin : T_R_begin
 strings_Contains : T_strings_Contains
def R_PartsOf_ (g : C_R_PartsOf) (a1 : List UInt8) {R : Type} (k0 : G_Parts → Bool → Option R) : Option R :=
 (g.z88z a1 [47] (fun r2 r3 r4 => (bif (decide ((a1.length : Int) > 14)) then k0 (⟨[], [], [], 0, []⟩ : G_Parts) false else (bif (!r4) then (g.R_baseAt r2 (fun r5 => (bif (decide (r5 < 0)) then k0 (⟨[], [], [], 0, []⟩ : G_Parts) false else (g.z90z r2 (fun r6 => k0 r6 true))))) else (g.R_baseAt r3 (fun r7 => (bif (decide (r7 ≥ 0)) then (g.R_begin r2 (fun r8 => (bif r8 then (g.z90z r3 (fun r9 => k0 (⟨r9.f_Base, r9.f_Prefix, r9.f_Suffix, 1, r2⟩ : G_Parts) true)) else (g.R_baseAt r2 (fun r10 => (bif (decide (r10 < 0)) then k0 (⟨[], [], [], 0, []⟩ : G_Parts) false else (g.z90z r2 (fun r11 => (bif (r3 == [112]) then k0 (⟨r11.f_Base, r11.f_Prefix, r11.f_Suffix, 3, r11.f_Added⟩ : G_Parts) true else (bif (r3 == [109]) then k0 (⟨r11.f_Base, r11.f_Prefix, r11.f_Suffix, 4, r11.f_Added⟩ : G_Parts) true else (bif (r3 == [109, 109]) then k0 (⟨r11.f_Base, r11.f_Prefix, r11.f_Suffix, 5, r11.f_Added⟩ : G_Parts) true else (bif (r3 == [97, 109]) then k0 (⟨r11.f_Base, r11.f_Prefix, r11.f_Suffix, 6, r11.f_Added⟩ : G_Parts) true else (bif ((r3.length : Int) == 1) then (g.strings_Contains [48, 49, 50, 51, 52, 53, 54, 55, 56, 57] r3 (fun r12 => (bif r12 then k0 (⟨r11.f_Base, r11.f_Prefix, r11.f_Suffix, 2, r3⟩ : G_Parts) true else (g.R_begin r3 (fun r13 => (bif r13 then k0 (⟨r11.f_Base, r11.f_Prefix, r11.f_Suffix, 1, r3⟩ : G_Parts) true else k0 (⟨[], [], [], 0, []⟩ : G_Parts) false)))))) else (g.R_begin r3 (fun r14 => (bif r14 then k0 (⟨r11.f_Base, r11.f_Prefix, r11.f_Suffix, 1, r3⟩ : G_Parts) true else k0 (⟨[], [], [], 0, []⟩ : G_Parts) false)))))))))))))))) else (g.R_baseAt r2 (fun r15 => (bif (decide (r15 < 0)) then k0 (⟨[], [], [], 0, []⟩ : G_Parts) false else (g.z90z r2 (fun r16 => (bif (r3 == [112]) then k0 (⟨r16.f_Base, r16.f_Prefix, r16.f_Suffix, 3, r16.f_Added⟩ : G_Parts) true else (bif (r3 == [109]) then k0 (⟨r16.f_Base, r16.f_Prefix, r16.f_Suffix, 4, r16.f_Added⟩ : G_Parts) true else (bif (r3 == [109, 109]) then k0 (⟨r16.f_Base, r16.f_Prefix, r16.f_Suffix, 5, r16.f_Added⟩ : G_Parts) true else (bif (r3 == [97, 109]) then k0 (⟨r16.f_Base, r16.f_Prefix, r16.f_Suffix, 6, r16.f_Added⟩ : G_Parts) true else (bif ((r3.length : Int) == 1) then (g.strings_Contains [48, 49, 50, 51, 52, 53, 54, 55, 56, 57] r3 (fun r17 => (bif r17 then k0 (⟨r16.f_Base, r16.f_Prefix, r16.f_Suffix, 2, r3⟩ : G_Parts) true else (g.R_begin r3 (fun r18 => (bif r18 then k0 (⟨r16.f_Base, r16.f_Prefix, r16.f_Suffix, 1, r3⟩ : G_Parts) true else k0 (⟨[], [], [], 0, []⟩ : G_Parts) false)))))) else (g.R_begin r3 (fun r19 => (bif r19 then k0 (⟨r16.f_Base, r16.f_Prefix, r16.f_Suffix, 1, r3⟩ : G_Parts) true else k0 (⟨[], [], [], 0, []⟩ : G_Parts) false))))))))))))))))))))
noncomputable def I_R_PartsOf [Fuel] : C_R_PartsOf := ⟨NN, @z88z _, @z90z _, @R_baseAt _, @R_begin _, @strings_Contains _⟩
noncomputable def R_PartsOf [Fuel] : T_R_PartsOf := @R_PartsOf_ I_R_PartsOf
def SS_R_PartsOf (g : T_R_PartsOf) : Spec A := fun args => match args with | [.d (.str a1)] => fun k => g a1 (fun z0 z1 => k (.tup [.agg [.d (.str z0.f_Base), .d (.str z0.f_Prefix), .d (.str z0.f_Suffix), .d (.int .i64 z0.f_Kind), .d (.str z0.f_Added)], .d (.bool z1)]) [.undef]) | _ => fun _ => none
noncomputable def code_113 : Code := (Tryz.f113.body).getD .skip
noncomputable def E_R_PartsOf (g : C_R_PartsOf) : Env A := mkE [(124, SS_z88z g.z88z), (155, SS_z90z g.z90z), (156, SS_R_baseAt g.R_baseAt), (157, SS_R_begin g.R_begin), (158, SS_strings_Contains g.strings_Contains)] [(2, [0]), (8, [1]), (9, [2])] [] [] [] [] [] [] [] []
theorem sm_R_PartsOf (g : C_R_PartsOf) : Same (SS_R_PartsOf (@R_PartsOf_ g)) (abody (E_R_PartsOf g) Tryz.f113 code_113 3 [] [.asis, .asis] g.N) := by intro args; unfold SS_R_PartsOf; split; exact .inr fun R k => (by kernel_rfl); exact .inl fun R k => rfl
theorem ok_R_PartsOf [Fuel] : Ok 113 (SS_R_PartsOf (@R_PartsOf _)) := okF_of std (.cons ok_z88z (.cons ok_z90z (.cons ok_R_baseAt (.cons ok_R_begin (.cons ok_strings_Contains .nil))))) ⟨rfl, rfl, by kernel_rfl, rfl, rfl, rfl⟩ (sm_R_PartsOf I_R_PartsOf) (cuts0 (fun _ => rfl) (by kernel_rfl)) Tryz.func113 (by kernel_rfl) (by kernel_rfl)
abbrev T_Q_Call : Type 1 := List UInt8 → {R : Type} → (Bool → Option R) → Option R
structure C_Q_Call where
 N : Nat
 R_PartsOf : T_R_PartsOf
def Q_Call_ (g : C_Q_Call) (a1 : List UInt8) {R : Type} (k0 : Bool → Option R) : Option R :=
 (g.R_PartsOf a1 (fun r2 r3 => k0 r3))
noncomputable def I_Q_Call [Fuel] : C_Q_Call := ⟨NN, @R_PartsOf _⟩
noncomputable def Q_Call [Fuel] : T_Q_Call := @Q_Call_ I_Q_Call
def SS_Q_Call (g : T_Q_Call) : Spec A := fun args => match args with | [.d (.str a1)] => fun k => g a1 (fun z0 => k (.d (.bool z0)) [.undef]) | _ => fun _ => none
noncomputable def code_63 : Code := (Tryz.f63.body).getD .skip
noncomputable def E_Q_Call (g : C_Q_Call) : Env A := mkE [(113, SS_R_PartsOf g.R_PartsOf)] [(3, [0])] [] [] [] [] [] [] [] []
theorem sm_Q_Call (g : C_Q_Call) : Same (SS_Q_Call (@Q_Call_ g)) (abody (E_Q_Call g) Tryz.f63 code_63 1 [] [.asis] g.N) := by intro args; unfold SS_Q_Call; split; exact .inr fun R k => (by kernel_rfl); exact .inl fun R k => rfl
theorem ok_Q_Call [Fuel] : Ok 63 (SS_Q_Call (@Q_Call _)) := okF_of std (.cons ok_R_PartsOf .nil) ⟨rfl, rfl, by kernel_rfl, rfl, rfl, rfl⟩ (sm_Q_Call I_Q_Call) (cuts0 (fun _ => rfl) (by kernel_rfl)) Tryz.func63 (by kernel_rfl) (by kernel_rfl)
abbrev T_z49z : Type 1 := List G_Spot → {R : Type} → (Int → Option R) → Option R
structure C_z49z where
 N : Nat
 z9z : T_z9z
 Q_Moment : T_Q_Moment
 Q_in : T_Q_in
 Q_Call : T_Q_Call
def z49z_L4 (g : C_z49z) : Nat → List G_Spot → List G_Spot → Int → Int → {R : Type} → (Int → Option R) → Option R → Option R
 | 0, _, _, _, _, _, _, _ => none
 | n + 1, v2, v3, v4, v5, _, e0, e1 => (bif (decide (v5 < v4)) then (get_ v3 v5 fun x13 => (g.Q_Moment x13.f_At (fun r14 => (bif (!r14) then e0 1 else (g.Q_in x13.f_Hertz 0 30000000000 (fun r15 => (bif (!r15) then e0 1 else (g.Q_Call x13.f_Call (fun r16 => (bif (!r16) then e0 3 else (g.Q_Call x13.f_By (fun r17 => (bif (!r17) then e0 3 else (bif (decide (v5 > 0)) then (get_ v2 (w64 (v5 - 1)) fun x18 => (g.z9z x18 x13 (fun r19 => (bif (decide (r19 ≥ 0)) then e0 7 else z49z_L4 g n v2 v3 v4 (w64 (v5 + 1)) e0 e1)))) else z49z_L4 g n v2 v3 v4 (w64 (v5 + 1)) e0 e1)))))))))))))) else e1)
def z49z_ (g : C_z49z) (a1 : List G_Spot) {R : Type} (k0 : Int → Option R) : Option R :=
 (bif (decide ((a1.length : Int) > 2000)) then k0 2 else (z49z_L4 g g.N a1 a1 (a1.length : Int) 0 (fun e20 => k0 e20) (k0 0)))
noncomputable def I_z49z [Fuel] : C_z49z := ⟨NN, @z9z _, @Q_Moment _, @Q_in _, @Q_Call _⟩
noncomputable def z49z [Fuel] : T_z49z := @z49z_ I_z49z
def SS_z49z (g : T_z49z) : Spec A := fun args => match args with | [.d (.sl 42 a1)] => fun k => g a1 (fun z0 => k (.d (.int .i64 z0)) [.undef]) | _ => fun _ => none
def sh_z49z_L4 : SSt := mkSh 51 1 [(0, .sl 42), (8, .sl 42), (9, .int .i64), (10, .int .i64)] []
def LP_z49z_L4 (g : C_z49z) (n : Nat) : LPT A := fun ps => match ps with | [.d (.sl 42 p1), .d (.sl 42 p2), .d (.int .i64 p3), .d (.int .i64 p4)] => fun K => z49z_L4 g n p1 p2 p3 p4 (fun z0 => K .ret (mkSt 51 1 [(2, .d (.int .i64 z0))] [])) (K (.exit 0) (mkSt 51 1 [] [])) | _ => fun _ => none
noncomputable def code_27 : Code := (Tryz.f27.body).getD .skip
noncomputable def E_z49z (g : C_z49z) : Env A := mkE [(59, SS_z9z g.z9z), (61, SS_Q_Moment g.Q_Moment), (62, SS_Q_in g.Q_in), (63, SS_Q_Call g.Q_Call)] [(4, [0])] [(4, ⟨[0, 8, 9, 10], [], [], [], [], [], []⟩)] [(4, ⟨[2], [], [], [], [], [], []⟩)] [(4, pieceOf sh_z49z_L4 (LP_z49z_L4 g g.N))] [] [] [] [] []
theorem ct_z49z [Fuel] : NatTab (E_z49z I_z49z).C := ct_of (P := Tryz.prog) (T := T) (.cons ok_z9z (.cons ok_Q_Moment (.cons ok_Q_in (.cons ok_Q_Call .nil)))) (by kernel_rfl)
noncomputable def cb_z49z_L4 : Code := sub [1, 1, 0, 1, 0, 0] code_27
theorem s_z49z_L4 (g : C_z49z) (n : Nat) : StepOk (E_z49z g) g.N cb_z49z_L4 sh_z49z_L4 (LP_z49z_L4 g) n := by intro ps; unfold LP_z49z_L4; split; exact .inr fun R K => (by kernel_rfl); exact .inl fun R K => rfl
theorem lf_z49z_L4 [Fuel] : LoopFine (E_z49z I_z49z) NN cb_z49z_L4 := fine_loop sh_z49z_L4 (LP_z49z_L4 I_z49z) (by kernel_rfl) ct_z49z (cuts0 (fun _ => rfl) (by kernel_rfl)) (fun ps R K => by unfold LP_z49z_L4; split <;> (try unfold z49z_L4) <;> rfl) (s_z49z_L4 I_z49z)
theorem sm_z49z (g : C_z49z) : Same (SS_z49z (@z49z_ g)) (abody (E_z49z g) Tryz.f27 code_27 1 [] [.asis] g.N) := by intro args; unfold SS_z49z; split; exact .inr fun R k => (by kernel_rfl); exact .inl fun R k => rfl
theorem ok_z49z [Fuel] : Ok 27 (SS_z49z (@z49z _)) := okF_of std (.cons ok_z9z (.cons ok_Q_Moment (.cons ok_Q_in (.cons ok_Q_Call .nil)))) ⟨rfl, rfl, by kernel_rfl, rfl, rfl, rfl⟩ (sm_z49z I_z49z) (cutsL (fun _ => rfl) (.cons lf_z49z_L4 .nil) (by kernel_rfl)) Tryz.func27 (by kernel_rfl) (by kernel_rfl)
abbrev T_z30z : Type 1 := G_Stream → Int → {R : Type} → (List G_Spot → G_Stream → Option R) → Option R
structure C_z30z where
 N : Nat
 z48z : T_z48z
 z49z : T_z49z
def z30z_L2 (g : C_z30z) : Nat → Int → Int → G_Stream → {R : Type} → (G_Stream → List G_Spot → Option R) → (G_Stream → Option R) → Option R
 | 0, _, _, _, _, _, _ => none
 | n + 1, v3, v4, v5, _, e0, e1 => (bif (decide (v4 < 5)) then (g.z48z v5 v3 (fun r9 r10 => (g.z49z r9 (fun r11 => (bif (r11 == 0) then e0 r10 r9 else z30z_L2 g n v3 (w64 (v4 + 1)) r10 e0 e1))))) else e1 v5)
def z30z_ (g : C_z30z) (a1 : G_Stream) (a2 : Int) {R : Type} (k0 : List G_Spot → G_Stream → Option R) : Option R :=
 (z30z_L2 g g.N a2 0 a1 (fun e12 e13 => k0 e13 e12) (fun e14 => k0 [] e14))
noncomputable def I_z30z [Fuel] : C_z30z := ⟨NN, @z48z _, @z49z _⟩
noncomputable def z30z [Fuel] : T_z30z := @z30z_ I_z30z
def SS_z30z (g : T_z30z) : Spec A := fun args => match args with | [.box [.d (.sl 3 a1), .d (.int .i64 a2)], .d (.int .i64 a3)] => fun k => g ⟨a1, a2⟩ a3 (fun z0 z1 => k (.arr 42 z0) [.box [.d (.sl 3 z1.f_L), .d (.int .i64 z1.f_at)], .undef]) | _ => fun _ => none
def sh_z30z_L2 : SSt := mkSh 16 2 [(0, .ptr 0 0), (1, .int .i64), (6, .int .i64)] [(0, .box [.sl 3, .int .i64])]
def LP_z30z_L2 (g : C_z30z) (n : Nat) : LPT A := fun ps => match ps with | [.d (.int .i64 p1), .d (.int .i64 p2), .d (.sl 3 p3), .d (.int .i64 p4)] => fun K => z30z_L2 g n p1 p2 ⟨p3, p4⟩ (fun z0 z1 => K .ret (mkSt 16 2 [(0, .ptr 0 0), (4, .own 42 1)] [(0, some (.box [.d (.sl 3 z0.f_L), .d (.int .i64 z0.f_at)])), (1, some (.row 42 z1))])) (fun z0 => K (.exit 0) (mkSt 16 2 [(0, .ptr 0 0)] [(0, some (.box [.d (.sl 3 z0.f_L), .d (.int .i64 z0.f_at)]))])) | _ => fun _ => none
noncomputable def code_6 : Code := (Tryz.f6.body).getD .skip
noncomputable def E_z30z (g : C_z30z) : Env A := mkE [(26, SS_z48z g.z48z), (27, SS_z49z g.z49z)] [(10, [1])] [(2, ⟨[0, 1, 6], [], [0], [], [], [], []⟩)] [(2, ⟨[0, 4], [], [0, 1], [], [], [], []⟩)] [(2, pieceOf sh_z30z_L2 (LP_z30z_L2 g g.N))] [] [] [] [] [0]
theorem ct_z30z [Fuel] : NatTab (E_z30z I_z30z).C := ct_of (P := Tryz.prog) (T := T) (.cons ok_z48z (.cons ok_z49z .nil)) (by kernel_rfl)
noncomputable def cb_z30z_L2 : Code := sub [1, 0, 1, 0, 0] code_6
theorem s_z30z_L2 (g : C_z30z) (n : Nat) : StepOk (E_z30z g) g.N cb_z30z_L2 sh_z30z_L2 (LP_z30z_L2 g) n := by intro ps; unfold LP_z30z_L2; split; exact .inr fun R K => (by kernel_rfl); exact .inl fun R K => rfl
theorem lf_z30z_L2 [Fuel] : LoopFine (E_z30z I_z30z) NN cb_z30z_L2 := fine_loop sh_z30z_L2 (LP_z30z_L2 I_z30z) (by kernel_rfl) ct_z30z (cuts0 (fun _ => rfl) (by kernel_rfl)) (fun ps R K => by unfold LP_z30z_L2; split <;> (try unfold z30z_L2) <;> rfl) (s_z30z_L2 I_z30z)
theorem sm_z30z (g : C_z30z) : Same (SS_z30z (@z30z_ g)) (abody (E_z30z g) Tryz.f6 code_6 2 [0] [.arr 42] g.N) := by intro args; unfold SS_z30z; split; exact .inr fun R k => (by kernel_rfl); exact .inl fun R k => rfl
theorem ok_z30z [Fuel] : Ok 6 (SS_z30z (@z30z _)) := okF_of std (.cons ok_z48z (.cons ok_z49z .nil)) ⟨rfl, rfl, by kernel_rfl, rfl, rfl, rfl⟩ (sm_z30z I_z30z) (cutsL (fun _ => rfl) (.cons lf_z30z_L2 .nil) (by kernel_rfl)) Tryz.func6 (by kernel_rfl) (by kernel_rfl)
end Go.Am
