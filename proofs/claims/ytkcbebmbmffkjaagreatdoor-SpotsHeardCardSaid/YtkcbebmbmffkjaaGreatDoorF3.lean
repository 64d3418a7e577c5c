/- The functions of the program as Lean functions, each shown to be what the code computes, part 3. No condition: lemmas for the claim. -/
import Derived.Test.YtkcbebmbmffkjaaGreatDoorF0
import Derived.Test.YtkcbebmbmffkjaaGreatDoorFSh
import Derived.Test.YtkcbebmbmffkjaaGreatDoorF2
set_option linter.unusedVariables false
set_option maxRecDepth 100000
namespace Go.Am
open Go Go.Proofs
abbrev T_z61z : Type 1 := List UInt8 → {R : Type} → (Int → Bool → Option R) → Option R
structure C_z61z where
 N : Nat
 z90z : T_z90z
 z92z : T_z92z
def z61z_L2 (g : C_z61z) : Nat → List UInt8 → Int → Int → Int → {R : Type} → (Int → Bool → Option R) → (Int → Option R) → Option R
 | 0, _, _, _, _, _, _, _ => none
 | n + 1, v2, v3, v4, v5, _, e0, e1 => (bif (decide (v5 < v4)) then (get_ v2 v5 fun x10 => (g.z92z (x10.toNat : Int) (fun r11 => (bif r11 then z61z_L2 g n v2 (w64 (v3 + 1)) v4 (w64 (v5 + 1)) e0 e1 else (get_ v2 v5 fun x12 => (g.z90z (x12.toNat : Int) (fun r13 => (bif (!r13) then e0 0 false else z61z_L2 g n v2 v3 v4 (w64 (v5 + 1)) e0 e1)))))))) else e1 v3)
def z61z_ (g : C_z61z) (a1 : List UInt8) {R : Type} (k0 : Int → Bool → Option R) : Option R :=
 (z61z_L2 g g.N a1 0 (a1.length : Int) 0 (fun e14 e15 => k0 e14 e15) (fun e16 => k0 e16 true))
noncomputable def I_z61z [Fuel] : C_z61z := ⟨NN, @z90z _, @z92z _⟩
noncomputable def z61z [Fuel] : T_z61z := @z61z_ I_z61z
def SS_z61z (g : T_z61z) : Spec A := fun args => match args with | [.d (.str a1)] => fun k => g a1 (fun z0 z1 => k (.tup [.d (.int .i64 z0), .d (.bool z1)]) [.undef]) | _ => fun _ => none
def sh_z61z_L2 : SSt := mkSh 25 0 [(0, .str), (2, .int .i64), (6, .int .i64), (7, .int .i64)] []
def LP_z61z_L2 (g : C_z61z) (n : Nat) : LPT A := fun ps => match ps with | [.d (.str p1), .d (.int .i64 p2), .d (.int .i64 p3), .d (.int .i64 p4)] => fun K => z61z_L2 g n p1 p2 p3 p4 (fun z0 z1 => K .ret (mkSt 25 0 [(2, .d (.int .i64 z0)), (3, .d (.bool z1))] [])) (fun z0 => K (.exit 0) (mkSt 25 0 [(2, .d (.int .i64 z0))] [])) | _ => fun _ => none
noncomputable def code_177 : Code := (Tryz.f177.body).getD .skip
noncomputable def E_z61z (g : C_z61z) : Env A := mkE [(178, SS_z90z g.z90z), (209, SS_z92z g.z92z)] [] [(2, ⟨[0, 2, 6, 7], [], [], [], [], [], []⟩)] [(2, ⟨[2, 3], [], [], [], [], [], []⟩)] [(2, pieceOf sh_z61z_L2 (LP_z61z_L2 g g.N))] [] [] [] [] []
theorem ct_z61z [Fuel] : NatTab (E_z61z I_z61z).C := ct_of (P := Tryz.prog) (T := T) (.cons ok_z90z (.cons ok_z92z .nil)) (by kernel_rfl)
noncomputable def cb_z61z_L2 : Code := sub [1, 0, 1, 0, 0] code_177
theorem s_z61z_L2 (g : C_z61z) (n : Nat) : StepOk (E_z61z g) g.N cb_z61z_L2 sh_z61z_L2 (LP_z61z_L2 g) n := by intro ps; unfold LP_z61z_L2; split; exact .inr fun R K => (by kernel_rfl); exact .inl fun R K => rfl
theorem lf_z61z_L2 [Fuel] : LoopFine (E_z61z I_z61z) NN cb_z61z_L2 := fine_loop sh_z61z_L2 (LP_z61z_L2 I_z61z) (by kernel_rfl) ct_z61z (cuts0 (fun _ => rfl) (by kernel_rfl)) (fun ps R K => by unfold LP_z61z_L2; split <;> (try unfold z61z_L2) <;> rfl) (s_z61z_L2 I_z61z)
theorem sm_z61z (g : C_z61z) : Same (SS_z61z (@z61z_ g)) (abody (E_z61z g) Tryz.f177 code_177 0 [] [.asis, .asis] g.N) := by intro args; unfold SS_z61z; split; exact .inr fun R k => (by kernel_rfl); exact .inl fun R k => rfl
theorem ok_z61z [Fuel] : Ok 177 (SS_z61z (@z61z _)) := okF_of std (.cons ok_z90z (.cons ok_z92z .nil)) ⟨rfl, rfl, by kernel_rfl, rfl, rfl, rfl⟩ (sm_z61z I_z61z) (cutsL (fun _ => rfl) (.cons lf_z61z_L2 .nil) (by kernel_rfl)) Tryz.func177 (by kernel_rfl) (by kernel_rfl)
abbrev T_strings_IndexRune : Type 1 := List UInt8 → Int → {R : Type} → (Int → Option R) → Option R
def strings_IndexRune [Fuel] : T_strings_IndexRune := @X_ixr
def SS_strings_IndexRune (g : T_strings_IndexRune) : Spec A := SSX_ixr g
theorem ok_strings_IndexRune [Fuel] : Ok 211 (SS_strings_IndexRune (@strings_IndexRune _)) := ⟨ssx_ixr_sound (ixr_sound (fun s r w h0 h1 => Any.strings_IndexRune_ascii Tryz.lays152 s r w h0 h1)), ssx_ixr_nat, enters_of (fn := Tryz.f211) Tryz.func211 (by kernel_rfl) (by kernel_rfl)⟩
abbrev T_z75z : Type 1 := Int → {R : Type} → (Bool → Option R) → Option R
def z75z_ (g : Nat) (a1 : Int) {R : Type} (k0 : Bool → Option R) : Option R :=
 k0 (decide (a1 > 8))
noncomputable def z75z [Fuel] : T_z75z := @z75z_ NN
def SS_z75z (g : T_z75z) : Spec A := fun args => match args with | [.d (.int .i64 a1)] => fun k => g a1 (fun z0 => k (.d (.bool z0)) [.undef]) | _ => fun _ => none
noncomputable def code_212 : Code := (Tryz.f212.body).getD .skip
noncomputable def E_z75z (g : Nat) : Env A := mkE [] [] [] [] [] [] [] [] [] []
theorem sm_z75z (g : Nat) : Same (SS_z75z (@z75z_ g)) (abody (E_z75z g) Tryz.f212 code_212 0 [] [.asis] g) := by intro args; unfold SS_z75z; split; exact .inr fun R k => (by kernel_rfl); exact .inl fun R k => rfl
theorem ok_z75z [Fuel] : Ok 212 (SS_z75z (@z75z _)) := okF_of std .nil ⟨rfl, rfl, by kernel_rfl, rfl, rfl, rfl⟩ (sm_z75z NN) (cuts0 (fun _ => rfl) (by kernel_rfl)) Tryz.func212 (by kernel_rfl) (by kernel_rfl)
abbrev T_z76z : Type 1 := List UInt8 → {R : Type} → Option R
def z76z_ (g : Nat) (a1 : List UInt8) {R : Type}  : Option R :=
 none
noncomputable def z76z [Fuel] : T_z76z := @z76z_ NN
def SS_z76z (g : T_z76z) : Spec A := fun args => match args with | [.d (.str a1)] => fun k => g a1 | _ => fun _ => none
noncomputable def code_187 : Code := (Tryz.f187.body).getD .skip
noncomputable def E_z76z (g : Nat) : Env A := mkE [] [] [] [] [] [] [] [] [] []
noncomputable def cb_z76z_L2 : Code := sub [1, 0, 1, 0, 0] code_187
theorem lf_z76z_L2 [Fuel] : LoopFine (E_z76z NN) NN cb_z76z_L2 := no_loop (by kernel_rfl)
theorem sm_z76z (g : Nat) : Same (SS_z76z (@z76z_ g)) (abody (E_z76z g) Tryz.f187 code_187 0 [] [.asis, .asis] g) := by intro args; unfold SS_z76z; split; exact .inr fun R k => (by kernel_rfl); exact .inl fun R k => rfl
theorem ok_z76z [Fuel] : Ok 187 (SS_z76z (@z76z _)) := okF_of std .nil ⟨rfl, rfl, by kernel_rfl, rfl, rfl, rfl⟩ (sm_z76z NN) (cutsL (fun _ => rfl) (.cons lf_z76z_L2 .nil) (by kernel_rfl)) Tryz.func187 (by kernel_rfl) (by kernel_rfl)
abbrev T_z91z : Type 1 := Int → {R : Type} → Option R
def z91z_ (g : Nat) (a1 : Int) {R : Type}  : Option R :=
 none
noncomputable def z91z [Fuel] : T_z91z := @z91z_ NN
def SS_z91z (g : T_z91z) : Spec A := fun args => match args with | [.d (.int .u8 a1)] => fun k => g a1 | _ => fun _ => none
noncomputable def code_230 : Code := (Tryz.f230.body).getD .skip
noncomputable def E_z91z (g : Nat) : Env A := mkE [] [] [] [] [] [] [] [] [] []
theorem sm_z91z (g : Nat) : Same (SS_z91z (@z91z_ g)) (abody (E_z91z g) Tryz.f230 code_230 0 [] [.asis] g) := by intro args; unfold SS_z91z; split; exact .inr fun R k => (by kernel_rfl); exact .inl fun R k => rfl
theorem ok_z91z [Fuel] : Ok 230 (SS_z91z (@z91z _)) := okF_of std .nil ⟨rfl, rfl, by kernel_rfl, rfl, rfl, rfl⟩ (sm_z91z NN) (cuts0 (fun _ => rfl) (by kernel_rfl)) Tryz.func230 (by kernel_rfl) (by kernel_rfl)
abbrev T_z72z : Type 1 := List UInt8 → {R : Type} → (Int → Int → Option R) → Option R
def z72z_ (g : Nat) (a1 : List UInt8) {R : Type} (k0 : Int → Int → Option R) : Option R :=
 (bif (decide ((a1.length : Int) < 1)) then k0 65533 0 else (at_ a1 0 fun x2 => none))
noncomputable def z72z [Fuel] : T_z72z := @z72z_ NN
def SS_z72z (g : T_z72z) : Spec A := fun args => match args with | [.d (.str a1)] => fun k => g a1 (fun z0 z1 => k (.tup [.d (.int .i32 z0), .d (.int .i64 z1)]) [.undef]) | _ => fun _ => none
noncomputable def code_231 : Code := (Tryz.f231.body).getD .skip
noncomputable def E_z72z (g : Nat) : Env A := mkE [] [] [] [] [] [] [] [] [] []
theorem sm_z72z (g : Nat) : Same (SS_z72z (@z72z_ g)) (abody (E_z72z g) Tryz.f231 code_231 0 [] [.asis, .asis] g) := by intro args; unfold SS_z72z; split; exact .inr fun R k => (by kernel_rfl); exact .inl fun R k => rfl
theorem ok_z72z [Fuel] : Ok 231 (SS_z72z (@z72z _)) := okF_of std .nil ⟨rfl, rfl, by kernel_rfl, rfl, rfl, rfl⟩ (sm_z72z NN) (cuts0 (fun _ => rfl) (by kernel_rfl)) Tryz.func231 (by kernel_rfl) (by kernel_rfl)
abbrev T_z64z : Type 1 := List UInt8 → {R : Type} → (Int → Int → Option R) → Option R
structure C_z64z where
 N : Nat
 z72z : T_z72z
def z64z_ (g : C_z64z) (a1 : List UInt8) {R : Type} (k0 : Int → Int → Option R) : Option R :=
 (bif (!(a1 == [])) then (at_ a1 0 fun x2 => (bif (decide ((x2.toNat : Int) < 128)) then (at_ a1 0 fun x3 => k0 (IntKind.i32.wrap (x3.toNat : Int)) 1) else (g.z72z a1 (fun r4 r5 => k0 r4 r5)))) else (g.z72z a1 (fun r6 r7 => k0 r6 r7)))
noncomputable def I_z64z [Fuel] : C_z64z := ⟨NN, @z72z _⟩
noncomputable def z64z [Fuel] : T_z64z := @z64z_ I_z64z
def SS_z64z (g : T_z64z) : Spec A := fun args => match args with | [.d (.str a1)] => fun k => g a1 (fun z0 z1 => k (.tup [.d (.int .i32 z0), .d (.int .i64 z1)]) [.undef]) | _ => fun _ => none
noncomputable def code_216 : Code := (Tryz.f216.body).getD .skip
noncomputable def E_z64z (g : C_z64z) : Env A := mkE [(231, SS_z72z g.z72z)] [] [] [] [] [] [] [] [] []
theorem sm_z64z (g : C_z64z) : Same (SS_z64z (@z64z_ g)) (abody (E_z64z g) Tryz.f216 code_216 0 [] [.asis, .asis] g.N) := by intro args; unfold SS_z64z; split; exact .inr fun R k => (by kernel_rfl); exact .inl fun R k => rfl
theorem ok_z64z [Fuel] : Ok 216 (SS_z64z (@z64z _)) := okF_of std (.cons ok_z72z .nil) ⟨rfl, rfl, by kernel_rfl, rfl, rfl, rfl⟩ (sm_z64z I_z64z) (cuts0 (fun _ => rfl) (by kernel_rfl)) Tryz.func216 (by kernel_rfl) (by kernel_rfl)
abbrev T_z28z : Type 1 := List UInt8 → {R : Type} → (Int → Int → Option R) → Option R
structure C_z28z where
 N : Nat
 z64z : T_z64z
 z91z : T_z91z
def z28z_L10 (g : C_z28z) : Nat → List UInt8 → Int → Int → Int → {R : Type} → (List UInt8 → Int → Int → Option R) → Option R
 | 0, _, _, _, _, _, _ => none
 | n + 1, v3, v4, v5, v6, _, e0 => (bif (decide (v5 ≥ v6)) then (get_ v3 v5 fun x8 => (g.z91z (x8.toNat : Int))) else e0 v3 v4 v5)
def z28z_ (g : C_z28z) (a1 : List UInt8) {R : Type} (k0 : Int → Int → Option R) : Option R :=
 (bif ((a1.length : Int) == 0) then k0 65533 0 else (get_ a1 (w64 ((a1.length : Int) - 1)) fun x2 => (bif (decide ((IntKind.i32.wrap (x2.toNat : Int)) < 128)) then k0 (IntKind.i32.wrap (x2.toNat : Int)) 1 else (z28z_L10 g g.N a1 (a1.length : Int) (w64 ((w64 ((a1.length : Int) - 1)) - 1)) (if 0 > (w64 ((a1.length : Int) - 4)) then 0 else (w64 ((a1.length : Int) - 4))) (fun e9 e10 e11 => (bif (decide (e11 < 0)) then (bif (decide (0 ≤ 0) && (decide (0 ≤ e10) && decide (e10 ≤ (e9.length : Int)))) then (g.z64z ((e9.take (e10 : Int).toNat).drop (0 : Int).toNat) (fun r12 r13 => (bif ((w64 (0 + r13)) != e10) then k0 65533 1 else k0 r12 r13))) else none) else (bif (decide (0 ≤ e11) && (decide (e11 ≤ e10) && decide (e10 ≤ (e9.length : Int)))) then (g.z64z ((e9.take (e10 : Int).toNat).drop (e11 : Int).toNat) (fun r14 r15 => (bif ((w64 (e11 + r15)) != e10) then k0 65533 1 else k0 r14 r15))) else none)))))))
noncomputable def I_z28z [Fuel] : C_z28z := ⟨NN, @z64z _, @z91z _⟩
noncomputable def z28z [Fuel] : T_z28z := @z28z_ I_z28z
def SS_z28z (g : T_z28z) : Spec A := fun args => match args with | [.d (.str a1)] => fun k => g a1 (fun z0 z1 => k (.tup [.d (.int .i32 z0), .d (.int .i64 z1)]) [.undef]) | _ => fun _ => none
def sh_z28z_L10 : SSt := mkSh 51 0 [(0, .str), (4, .int .i64), (5, .int .i64), (6, .int .i64)] []
def LP_z28z_L10 (g : C_z28z) (n : Nat) : LPT A := fun ps => match ps with | [.d (.str p1), .d (.int .i64 p2), .d (.int .i64 p3), .d (.int .i64 p4)] => fun K => z28z_L10 g n p1 p2 p3 p4 (fun z0 z1 z2 => K (.exit 0) (mkSt 51 0 [(0, .d (.str z0)), (4, .d (.int .i64 z1)), (5, .d (.int .i64 z2))] [])) | _ => fun _ => none
noncomputable def code_214 : Code := (Tryz.f214.body).getD .skip
noncomputable def E_z28z (g : C_z28z) : Env A := mkE [(216, SS_z64z g.z64z), (230, SS_z91z g.z91z)] [] [(10, ⟨[0, 4, 5, 6], [], [], [], [], [], []⟩)] [(10, ⟨[0, 4, 5], [], [], [], [], [], []⟩)] [(10, pieceOf sh_z28z_L10 (LP_z28z_L10 g g.N))] [] [] [] [] []
theorem ct_z28z [Fuel] : NatTab (E_z28z I_z28z).C := ct_of (P := Tryz.prog) (T := T) (.cons ok_z64z (.cons ok_z91z .nil)) (by kernel_rfl)
noncomputable def cb_z28z_L10 : Code := sub [1, 1, 1, 1, 1, 1, 1, 0, 1, 0, 0] code_214
theorem s_z28z_L10 (g : C_z28z) (n : Nat) : StepOk (E_z28z g) g.N cb_z28z_L10 sh_z28z_L10 (LP_z28z_L10 g) n := by intro ps; unfold LP_z28z_L10; split; exact .inr fun R K => (by kernel_rfl); exact .inl fun R K => rfl
theorem lf_z28z_L10 [Fuel] : LoopFine (E_z28z I_z28z) NN cb_z28z_L10 := fine_loop sh_z28z_L10 (LP_z28z_L10 I_z28z) (by kernel_rfl) ct_z28z (cuts0 (fun _ => rfl) (by kernel_rfl)) (fun ps R K => by unfold LP_z28z_L10; split <;> (try unfold z28z_L10) <;> rfl) (s_z28z_L10 I_z28z)
theorem sm_z28z (g : C_z28z) : Same (SS_z28z (@z28z_ g)) (abody (E_z28z g) Tryz.f214 code_214 0 [] [.asis, .asis] g.N) := by intro args; unfold SS_z28z; split; exact .inr fun R k => (by kernel_rfl); exact .inl fun R k => rfl
theorem ok_z28z [Fuel] : Ok 214 (SS_z28z (@z28z _)) := okF_of std (.cons ok_z64z (.cons ok_z91z .nil)) ⟨rfl, rfl, by kernel_rfl, rfl, rfl, rfl⟩ (sm_z28z I_z28z) (cutsL (fun _ => rfl) (.cons lf_z28z_L10 .nil) (by kernel_rfl)) Tryz.func214 (by kernel_rfl) (by kernel_rfl)
abbrev T_z21z : Type 1 := List UInt8 → List UInt8 → {R : Type} → (Int → Option R) → Option R
structure C_z21z where
 N : Nat
 z76z : T_z76z
 strings_IndexRune : T_strings_IndexRune
 z75z : T_z75z
 z28z : T_z28z
def z21z_L24 (g : C_z21z) : Nat → List UInt8 → Int → Int → {R : Type} → (Int → Option R) → Option R → Option R
 | 0, _, _, _, _, _, _ => none
 | n + 1, v8, v9, v10, _, e0, e1 => (bif (decide (v10 > 0)) then (bif (decide (0 ≤ v10) && decide (v10 ≤ (v8.length : Int))) then (g.z28z (v8.take (v10 : Int).toNat) (fun r13 r14 => (bif (v9 == r13) then e0 (w64 (v10 - r14)) else z21z_L24 g n v8 v9 (w64 (v10 - r14)) e0 e1))) else none) else e1)
def z21z_L31 (g : C_z21z) : Nat → List UInt8 → List UInt8 → Int → {R : Type} → (Int → Option R) → Option R → Option R
 | 0, _, _, _, _, _, _ => none
 | n + 1, v17, v18, v19, _, e0, e1 => (bif (decide (v19 > 0)) then (bif (decide (0 ≤ v19) && decide (v19 ≤ (v17.length : Int))) then (g.z28z (v17.take (v19 : Int).toNat) (fun r23 r24 => (g.strings_IndexRune v18 r23 (fun r25 => (bif (decide (r25 ≥ 0)) then e0 (w64 (v19 - r24)) else z21z_L31 g n v17 v18 (w64 (v19 - r24)) e0 e1))))) else none) else e1)
def z21z_ (g : C_z21z) (a1 a2 : List UInt8) {R : Type} (k0 : Int → Option R) : Option R :=
 (bif (a2 == []) then k0 (-1) else (bif ((a1.length : Int) == 1) then (at_ a1 0 fun x3 => (bif (decide ((IntKind.i32.wrap (x3.toNat : Int)) ≥ 128)) then (g.strings_IndexRune a2 65533 (fun r4 => (bif (decide (r4 ≥ 0)) then k0 0 else k0 (-1)))) else (g.strings_IndexRune a2 (IntKind.i32.wrap (x3.toNat : Int)) (fun r5 => (bif (decide (r5 ≥ 0)) then k0 0 else k0 (-1)))))) else (g.z75z (a1.length : Int) (fun r6 => (bif r6 then (g.z76z a2) else (bif ((a2.length : Int) == 1) then (at_ a2 0 fun x7 => (bif (decide ((IntKind.i32.wrap (x7.toNat : Int)) ≥ 128)) then (z21z_L24 g g.N a1 65533 (a1.length : Int) (fun e15 => k0 e15) (k0 (-1))) else (z21z_L24 g g.N a1 (IntKind.i32.wrap (x7.toNat : Int)) (a1.length : Int) (fun e16 => k0 e16) (k0 (-1))))) else (z21z_L31 g g.N a1 a2 (a1.length : Int) (fun e26 => k0 e26) (k0 (-1)))))))))
noncomputable def I_z21z [Fuel] : C_z21z := ⟨NN, @z76z _, @strings_IndexRune _, @z75z _, @z28z _⟩
noncomputable def z21z [Fuel] : T_z21z := @z21z_ I_z21z
def SS_z21z (g : T_z21z) : Spec A := fun args => match args with | [.d (.str a1), .d (.str a2)] => fun k => g a1 a2 (fun z0 => k (.d (.int .i64 z0)) [.undef, .undef]) | _ => fun _ => none
def sh_z21z_L24 : SSt := mkSh 96 0 [(0, .str), (9, .int .i32), (10, .int .i64)] []
def LP_z21z_L24 (g : C_z21z) (n : Nat) : LPT A := fun ps => match ps with | [.d (.str p1), .d (.int .i32 p2), .d (.int .i64 p3)] => fun K => z21z_L24 g n p1 p2 p3 (fun z0 => K .ret (mkSt 96 0 [(4, .d (.int .i64 z0))] [])) (K (.exit 2) (mkSt 96 0 [] [])) | _ => fun _ => none
def sh_z21z_L31 : SSt := mkSh 96 0 [(0, .str), (1, .str), (13, .int .i64)] []
def LP_z21z_L31 (g : C_z21z) (n : Nat) : LPT A := fun ps => match ps with | [.d (.str p1), .d (.str p2), .d (.int .i64 p3)] => fun K => z21z_L31 g n p1 p2 p3 (fun z0 => K .ret (mkSt 96 0 [(4, .d (.int .i64 z0))] [])) (K (.exit 4) (mkSt 96 0 [] [])) | _ => fun _ => none
noncomputable def code_180 : Code := (Tryz.f180.body).getD .skip
noncomputable def E_z21z (g : C_z21z) : Env A := mkE [(187, SS_z76z g.z76z), (211, SS_strings_IndexRune g.strings_IndexRune), (212, SS_z75z g.z75z), (214, SS_z28z g.z28z)] [] [(24, ⟨[0, 9, 10], [], [], [], [], [], []⟩), (31, ⟨[0, 1, 13], [], [], [], [], [], []⟩)] [(24, ⟨[4], [], [], [], [], [], []⟩), (31, ⟨[4], [], [], [], [], [], []⟩)] [(24, pieceOf sh_z21z_L24 (LP_z21z_L24 g g.N)), (31, pieceOf sh_z21z_L31 (LP_z21z_L31 g g.N))] [] [] [] [] []
theorem ct_z21z [Fuel] : NatTab (E_z21z I_z21z).C := ct_of (P := Tryz.prog) (T := T) (.cons ok_z76z (.cons ok_strings_IndexRune (.cons ok_z75z (.cons ok_z28z .nil)))) (by kernel_rfl)
noncomputable def cb_z21z_L14 : Code := sub [1, 1, 1, 0, 1, 0, 1, 1, 0, 0, 1, 0, 0] code_180
theorem lf_z21z_L14 [Fuel] : LoopFine (E_z21z I_z21z) NN cb_z21z_L14 := no_loop (by kernel_rfl)
noncomputable def cb_z21z_L24 : Code := sub [1, 1, 1, 1, 0, 1, 0, 1, 1, 0, 1, 0, 0] code_180
theorem s_z21z_L24 (g : C_z21z) (n : Nat) : StepOk (E_z21z g) g.N cb_z21z_L24 sh_z21z_L24 (LP_z21z_L24 g) n := by intro ps; unfold LP_z21z_L24; split; exact .inr fun R K => (by kernel_rfl); exact .inl fun R K => rfl
theorem lf_z21z_L24 [Fuel] : LoopFine (E_z21z I_z21z) NN cb_z21z_L24 := fine_loop sh_z21z_L24 (LP_z21z_L24 I_z21z) (by kernel_rfl) ct_z21z (cuts0 (fun _ => rfl) (by kernel_rfl)) (fun ps R K => by unfold LP_z21z_L24; split <;> (try unfold z21z_L24) <;> rfl) (s_z21z_L24 I_z21z)
noncomputable def cb_z21z_L31 : Code := sub [1, 1, 1, 1, 1, 0, 1, 0, 0] code_180
theorem s_z21z_L31 (g : C_z21z) (n : Nat) : StepOk (E_z21z g) g.N cb_z21z_L31 sh_z21z_L31 (LP_z21z_L31 g) n := by intro ps; unfold LP_z21z_L31; split; exact .inr fun R K => (by kernel_rfl); exact .inl fun R K => rfl
theorem lf_z21z_L31 [Fuel] : LoopFine (E_z21z I_z21z) NN cb_z21z_L31 := fine_loop sh_z21z_L31 (LP_z21z_L31 I_z21z) (by kernel_rfl) ct_z21z (cuts0 (fun _ => rfl) (by kernel_rfl)) (fun ps R K => by unfold LP_z21z_L31; split <;> (try unfold z21z_L31) <;> rfl) (s_z21z_L31 I_z21z)
theorem sm_z21z (g : C_z21z) : Same (SS_z21z (@z21z_ g)) (abody (E_z21z g) Tryz.f180 code_180 0 [] [.asis] g.N) := by intro args; unfold SS_z21z; split; exact .inr fun R k => (by kernel_rfl); exact .inl fun R k => rfl
theorem ok_z21z [Fuel] : Ok 180 (SS_z21z (@z21z _)) := okF_of std (.cons ok_z76z (.cons ok_strings_IndexRune (.cons ok_z75z (.cons ok_z28z .nil)))) ⟨rfl, rfl, by kernel_rfl, rfl, rfl, rfl⟩ (sm_z21z I_z21z) (cutsL (fun _ => rfl) (.cons lf_z21z_L14 (.cons lf_z21z_L24 (.cons lf_z21z_L31 .nil))) (by kernel_rfl)) Tryz.func180 (by kernel_rfl) (by kernel_rfl)
abbrev T_call_split : Type 1 := List UInt8 → {R : Type} → (Int → Bool → Option R) → Option R
structure C_call_split where
 N : Nat
 z61z : T_z61z
 z21z : T_z21z
def call_split_ (g : C_call_split) (a1 : List UInt8) {R : Type} (k0 : Int → Bool → Option R) : Option R :=
 (g.z61z a1 (fun r2 r3 => (bif (!r3) then k0 0 false else (bif (decide ((a1.length : Int) > 10)) then k0 0 false else (g.z21z a1 [48, 49, 50, 51, 52, 53, 54, 55, 56, 57] (fun r4 => (bif (decide (r4 < 1)) then k0 0 false else (bif (decide (r4 > 3)) then k0 0 false else (bif (decide ((w64 ((w64 ((a1.length : Int) - r4)) - 1)) < 1)) then k0 0 false else (bif (decide ((w64 ((w64 ((a1.length : Int) - r4)) - 1)) > 4)) then k0 0 false else (bif (decide (0 ≤ r4) && decide (r4 ≤ (a1.length : Int))) then (g.z61z (a1.take (r4 : Int).toNat) (fun r5 r6 => k0 r4 (decide (r5 > 0)))) else none)))))))))))
noncomputable def I_call_split [Fuel] : C_call_split := ⟨NN, @z61z _, @z21z _⟩
noncomputable def call_split [Fuel] : T_call_split := @call_split_ I_call_split
def SS_call_split (g : T_call_split) : Spec A := fun args => match args with | [.d (.str a1)] => fun k => g a1 (fun z0 z1 => k (.tup [.d (.int .i64 z0), .d (.bool z1)]) [.undef]) | _ => fun _ => none
noncomputable def code_175 : Code := (Tryz.f175.body).getD .skip
noncomputable def E_call_split (g : C_call_split) : Env A := mkE [(177, SS_z61z g.z61z), (180, SS_z21z g.z21z)] [] [] [] [] [] [] [] [] []
theorem sm_call_split (g : C_call_split) : Same (SS_call_split (@call_split_ g)) (abody (E_call_split g) Tryz.f175 code_175 0 [] [.asis, .asis] g.N) := by intro args; unfold SS_call_split; split; exact .inr fun R k => (by kernel_rfl); exact .inl fun R k => rfl
theorem ok_call_split [Fuel] : Ok 175 (SS_call_split (@call_split _)) := okF_of std (.cons ok_z61z (.cons ok_z21z .nil)) ⟨rfl, rfl, by kernel_rfl, rfl, rfl, rfl⟩ (sm_call_split I_call_split) (cuts0 (fun _ => rfl) (by kernel_rfl)) Tryz.func175 (by kernel_rfl) (by kernel_rfl)
abbrev T_call_based : Type 1 := List UInt8 → {R : Type} → (G_Parts → Bool → Option R) → Option R
structure C_call_based where
 N : Nat
 call_split : T_call_split
def call_based_ (g : C_call_based) (a1 : List UInt8) {R : Type} (k0 : G_Parts → Bool → Option R) : Option R :=
 (g.call_split a1 (fun r2 r3 => (bif (!r3) then k0 (⟨[], [], [], 0, []⟩ : G_Parts) false else (bif (decide (0 ≤ (w64 (r2 + 1))) && decide ((w64 (r2 + 1)) ≤ (a1.length : Int))) then (bif (decide (0 ≤ (w64 (r2 + 1))) && decide ((w64 (r2 + 1)) ≤ (a1.length : Int))) then k0 (⟨a1, (a1.take ((w64 (r2 + 1)) : Int).toNat), (a1.drop ((w64 (r2 + 1)) : Int).toNat), 0, []⟩ : G_Parts) true else none) else none))))
noncomputable def I_call_based [Fuel] : C_call_based := ⟨NN, @call_split _⟩
noncomputable def call_based [Fuel] : T_call_based := @call_based_ I_call_based
def SS_call_based (g : T_call_based) : Spec A := fun args => match args with | [.d (.str a1)] => fun k => g a1 (fun z0 z1 => k (.tup [.agg [.d (.str z0.f_Base), .d (.str z0.f_Prefix), .d (.str z0.f_Suffix), .d (.int .i64 z0.f_Kind), .d (.str z0.f_Added)], .d (.bool z1)]) [.undef]) | _ => fun _ => none
noncomputable def code_137 : Code := (Tryz.f137.body).getD .skip
noncomputable def E_call_based (g : C_call_based) : Env A := mkE [(175, SS_call_split g.call_split)] [(2, [0])] [] [] [] [] [] [] [] []
theorem sm_call_based (g : C_call_based) : Same (SS_call_based (@call_based_ g)) (abody (E_call_based g) Tryz.f137 code_137 1 [] [.asis, .asis] g.N) := by intro args; unfold SS_call_based; split; exact .inr fun R k => (by kernel_rfl); exact .inl fun R k => rfl
theorem ok_call_based [Fuel] : Ok 137 (SS_call_based (@call_based _)) := okF_of std (.cons ok_call_split .nil) ⟨rfl, rfl, by kernel_rfl, rfl, rfl, rfl⟩ (sm_call_based I_call_based) (cuts0 (fun _ => rfl) (by kernel_rfl)) Tryz.func137 (by kernel_rfl) (by kernel_rfl)
abbrev T_stringslite_Index : Type 1 := List UInt8 → List UInt8 → {R : Type} → (Int → Option R) → Option R
def stringslite_Index [Fuel] : T_stringslite_Index := @X_ix1
def SS_stringslite_Index (g : T_stringslite_Index) : Spec A := SSX_ix1 g
theorem ok_stringslite_Index [Fuel] : Ok 208 (SS_stringslite_Index (@stringslite_Index _)) := ⟨ssx_ix1_sound (ix1_sound (Any.stringslite_Index_one Tryz.lays219)), ssx_ix1_nat, enters_of (fn := Tryz.f208) Tryz.func208 (by kernel_rfl) (by kernel_rfl)⟩
abbrev T_z86z : Type 1 := List UInt8 → List UInt8 → {R : Type} → (List UInt8 → List UInt8 → Bool → Option R) → Option R
structure C_z86z where
 N : Nat
 stringslite_Index : T_stringslite_Index
def z86z_ (g : C_z86z) (a1 a2 : List UInt8) {R : Type} (k0 : List UInt8 → List UInt8 → Bool → Option R) : Option R :=
 (g.stringslite_Index a1 a2 (fun r3 => (bif (decide (r3 ≥ 0)) then (bif (decide (0 ≤ r3) && decide (r3 ≤ (a1.length : Int))) then (bif (decide (0 ≤ (w64 (r3 + (a2.length : Int)))) && decide ((w64 (r3 + (a2.length : Int))) ≤ (a1.length : Int))) then k0 (a1.take (r3 : Int).toNat) (a1.drop ((w64 (r3 + (a2.length : Int))) : Int).toNat) true else none) else none) else k0 a1 [] false)))
noncomputable def I_z86z [Fuel] : C_z86z := ⟨NN, @stringslite_Index _⟩
noncomputable def z86z [Fuel] : T_z86z := @z86z_ I_z86z
def SS_z86z (g : T_z86z) : Spec A := fun args => match args with | [.d (.str a1), .d (.str a2)] => fun k => g a1 a2 (fun z0 z1 z2 => k (.tup [.d (.str z0), .d (.str z1), .d (.bool z2)]) [.undef, .undef]) | _ => fun _ => none
noncomputable def code_176 : Code := (Tryz.f176.body).getD .skip
noncomputable def E_z86z (g : C_z86z) : Env A := mkE [(208, SS_stringslite_Index g.stringslite_Index)] [] [] [] [] [] [] [] [] []
theorem sm_z86z (g : C_z86z) : Same (SS_z86z (@z86z_ g)) (abody (E_z86z g) Tryz.f176 code_176 0 [] [.asis, .asis, .asis] g.N) := by intro args; unfold SS_z86z; split; exact .inr fun R k => (by kernel_rfl); exact .inl fun R k => rfl
theorem ok_z86z [Fuel] : Ok 176 (SS_z86z (@z86z _)) := okF_of std (.cons ok_stringslite_Index .nil) ⟨rfl, rfl, by kernel_rfl, rfl, rfl, rfl⟩ (sm_z86z I_z86z) (cuts0 (fun _ => rfl) (by kernel_rfl)) Tryz.func176 (by kernel_rfl) (by kernel_rfl)
abbrev T_z87z : Type 1 := List UInt8 → List UInt8 → {R : Type} → (List UInt8 → List UInt8 → Bool → Option R) → Option R
structure C_z87z where
 N : Nat
 z86z : T_z86z
def z87z_ (g : C_z87z) (a1 a2 : List UInt8) {R : Type} (k0 : List UInt8 → List UInt8 → Bool → Option R) : Option R :=
 (g.z86z a1 a2 (fun r3 r4 r5 => k0 r3 r4 r5))
noncomputable def I_z87z [Fuel] : C_z87z := ⟨NN, @z86z _⟩
noncomputable def z87z [Fuel] : T_z87z := @z87z_ I_z87z
def SS_z87z (g : T_z87z) : Spec A := fun args => match args with | [.d (.str a1), .d (.str a2)] => fun k => g a1 a2 (fun z0 z1 z2 => k (.tup [.d (.str z0), .d (.str z1), .d (.bool z2)]) [.undef, .undef]) | _ => fun _ => none
noncomputable def code_138 : Code := (Tryz.f138.body).getD .skip
noncomputable def E_z87z (g : C_z87z) : Env A := mkE [(176, SS_z86z g.z86z)] [] [] [] [] [] [] [] [] []
theorem sm_z87z (g : C_z87z) : Same (SS_z87z (@z87z_ g)) (abody (E_z87z g) Tryz.f138 code_138 0 [] [.asis, .asis, .asis] g.N) := by intro args; unfold SS_z87z; split; exact .inr fun R k => (by kernel_rfl); exact .inl fun R k => rfl
theorem ok_z87z [Fuel] : Ok 138 (SS_z87z (@z87z _)) := okF_of std (.cons ok_z86z .nil) ⟨rfl, rfl, by kernel_rfl, rfl, rfl, rfl⟩ (sm_z87z I_z87z) (cuts0 (fun _ => rfl) (by kernel_rfl)) Tryz.func138 (by kernel_rfl) (by kernel_rfl)
abbrev T_z85z : Type 1 := List UInt8 → {R : Type} → (Bool → Option R) → Option R
structure C_z85z where
 N : Nat
 z61z : T_z61z
def z85z_ (g : C_z85z) (a1 : List UInt8) {R : Type} (k0 : Bool → Option R) : Option R :=
 (g.z61z a1 (fun r2 r3 => (bif r3 then (bif (decide (r2 > 0)) then k0 (decide ((a1.length : Int) ≤ 4)) else k0 false) else k0 false)))
noncomputable def I_z85z [Fuel] : C_z85z := ⟨NN, @z61z _⟩
noncomputable def z85z [Fuel] : T_z85z := @z85z_ I_z85z
def SS_z85z (g : T_z85z) : Spec A := fun args => match args with | [.d (.str a1)] => fun k => g a1 (fun z0 => k (.d (.bool z0)) [.undef]) | _ => fun _ => none
noncomputable def code_139 : Code := (Tryz.f139.body).getD .skip
noncomputable def E_z85z (g : C_z85z) : Env A := mkE [(177, SS_z61z g.z61z)] [] [] [] [] [] [] [] [] []
theorem sm_z85z (g : C_z85z) : Same (SS_z85z (@z85z_ g)) (abody (E_z85z g) Tryz.f139 code_139 0 [] [.asis] g.N) := by intro args; unfold SS_z85z; split; exact .inr fun R k => (by kernel_rfl); exact .inl fun R k => rfl
theorem ok_z85z [Fuel] : Ok 139 (SS_z85z (@z85z _)) := okF_of std (.cons ok_z61z .nil) ⟨rfl, rfl, by kernel_rfl, rfl, rfl, rfl⟩ (sm_z85z I_z85z) (cuts0 (fun _ => rfl) (by kernel_rfl)) Tryz.func139 (by kernel_rfl) (by kernel_rfl)
abbrev T_call_tail : Type 1 := List UInt8 → {R : Type} → (Int → List UInt8 → Bool → Option R) → Option R
structure C_call_tail where
 N : Nat
 z85z : T_z85z
 z90z : T_z90z
def call_tail_ (g : C_call_tail) (a1 : List UInt8) {R : Type} (k0 : Int → List UInt8 → Bool → Option R) : Option R :=
 (bif (a1 == [112]) then k0 3 [] true else (bif (a1 == [109]) then k0 4 [] true else (bif (a1 == [109, 109]) then k0 5 [] true else (bif (a1 == [97, 109]) then k0 6 [] true else (bif ((a1.length : Int) == 1) then (at_ a1 0 fun x2 => (g.z90z (x2.toNat : Int) (fun r3 => (bif r3 then k0 2 a1 true else (g.z85z a1 (fun r4 => k0 1 a1 r4)))))) else (g.z85z a1 (fun r5 => k0 1 a1 r5)))))))
noncomputable def I_call_tail [Fuel] : C_call_tail := ⟨NN, @z85z _, @z90z _⟩
noncomputable def call_tail [Fuel] : T_call_tail := @call_tail_ I_call_tail
def SS_call_tail (g : T_call_tail) : Spec A := fun args => match args with | [.d (.str a1)] => fun k => g a1 (fun z0 z1 z2 => k (.tup [.d (.int .i64 z0), .d (.str z1), .d (.bool z2)]) [.undef]) | _ => fun _ => none
noncomputable def code_140 : Code := (Tryz.f140.body).getD .skip
noncomputable def E_call_tail (g : C_call_tail) : Env A := mkE [(139, SS_z85z g.z85z), (178, SS_z90z g.z90z)] [] [] [] [] [] [] [] [] []
theorem sm_call_tail (g : C_call_tail) : Same (SS_call_tail (@call_tail_ g)) (abody (E_call_tail g) Tryz.f140 code_140 0 [] [.asis, .asis, .asis] g.N) := by intro args; unfold SS_call_tail; split; exact .inr fun R k => (by kernel_rfl); exact .inl fun R k => rfl
theorem ok_call_tail [Fuel] : Ok 140 (SS_call_tail (@call_tail _)) := okF_of std (.cons ok_z85z (.cons ok_z90z .nil)) ⟨rfl, rfl, by kernel_rfl, rfl, rfl, rfl⟩ (sm_call_tail I_call_tail) (cuts0 (fun _ => rfl) (by kernel_rfl)) Tryz.func140 (by kernel_rfl) (by kernel_rfl)
abbrev T_call_Parts : Type 1 := List UInt8 → {R : Type} → (G_Parts → Bool → Option R) → Option R
structure C_call_Parts where
 N : Nat
 call_based : T_call_based
 z87z : T_z87z
 z85z : T_z85z
 call_tail : T_call_tail
def call_Parts_ (g : C_call_Parts) (a1 : List UInt8) {R : Type} (k0 : G_Parts → Bool → Option R) : Option R :=
 (bif (decide ((a1.length : Int) > 14)) then k0 (⟨[], [], [], 0, []⟩ : G_Parts) false else (g.call_based a1 (fun r2 r3 => (bif r3 then k0 r2 true else (g.z87z a1 [47] (fun r4 r5 r6 => (bif (!r6) then k0 (⟨[], [], [], 0, []⟩ : G_Parts) false else (g.call_based r5 (fun r7 r8 => (bif r8 then (g.z85z r4 (fun r9 => (bif r9 then k0 (⟨r7.f_Base, r7.f_Prefix, r7.f_Suffix, 1, r4⟩ : G_Parts) true else (g.call_based r4 (fun r10 r11 => (g.call_tail r5 (fun r12 r13 r14 => (bif (!r11) then k0 (⟨[], [], [], 0, []⟩ : G_Parts) false else (bif (!r14) then k0 (⟨[], [], [], 0, []⟩ : G_Parts) false else k0 (⟨r10.f_Base, r10.f_Prefix, r10.f_Suffix, r12, r13⟩ : G_Parts) true))))))))) else (g.call_based r4 (fun r15 r16 => (g.call_tail r5 (fun r17 r18 r19 => (bif (!r16) then k0 (⟨[], [], [], 0, []⟩ : G_Parts) false else (bif (!r19) then k0 (⟨[], [], [], 0, []⟩ : G_Parts) false else k0 (⟨r15.f_Base, r15.f_Prefix, r15.f_Suffix, r17, r18⟩ : G_Parts) true))))))))))))))))
noncomputable def I_call_Parts [Fuel] : C_call_Parts := ⟨NN, @call_based _, @z87z _, @z85z _, @call_tail _⟩
noncomputable def call_Parts [Fuel] : T_call_Parts := @call_Parts_ I_call_Parts
def SS_call_Parts (g : T_call_Parts) : Spec A := fun args => match args with | [.d (.str a1)] => fun k => g a1 (fun z0 z1 => k (.tup [.agg [.d (.str z0.f_Base), .d (.str z0.f_Prefix), .d (.str z0.f_Suffix), .d (.int .i64 z0.f_Kind), .d (.str z0.f_Added)], .d (.bool z1)]) [.undef]) | _ => fun _ => none
noncomputable def code_97 : Code := (Tryz.f97.body).getD .skip
noncomputable def E_call_Parts (g : C_call_Parts) : Env A := mkE [(137, SS_call_based g.call_based), (138, SS_z87z g.z87z), (139, SS_z85z g.z85z), (140, SS_call_tail g.call_tail)] [(2, [0]), (4, [1]), (9, [2]), (11, [3])] [] [] [] [] [] [] [] []
theorem sm_call_Parts (g : C_call_Parts) : Same (SS_call_Parts (@call_Parts_ g)) (abody (E_call_Parts g) Tryz.f97 code_97 4 [] [.asis, .asis] g.N) := by intro args; unfold SS_call_Parts; split; exact .inr fun R k => (by kernel_rfl); exact .inl fun R k => rfl
theorem ok_call_Parts [Fuel] : Ok 97 (SS_call_Parts (@call_Parts _)) := okF_of std (.cons ok_call_based (.cons ok_z87z (.cons ok_z85z (.cons ok_call_tail .nil)))) ⟨rfl, rfl, by kernel_rfl, rfl, rfl, rfl⟩ (sm_call_Parts I_call_Parts) (cuts0 (fun _ => rfl) (by kernel_rfl)) Tryz.func97 (by kernel_rfl) (by kernel_rfl)
abbrev T_call_Is : Type 1 := List UInt8 → {R : Type} → (Bool → Option R) → Option R
structure C_call_Is where
 N : Nat
 call_Parts : T_call_Parts
def call_Is_ (g : C_call_Is) (a1 : List UInt8) {R : Type} (k0 : Bool → Option R) : Option R :=
 (g.call_Parts a1 (fun r2 r3 => k0 r3))
noncomputable def I_call_Is [Fuel] : C_call_Is := ⟨NN, @call_Parts _⟩
noncomputable def call_Is [Fuel] : T_call_Is := @call_Is_ I_call_Is
def SS_call_Is (g : T_call_Is) : Spec A := fun args => match args with | [.d (.str a1)] => fun k => g a1 (fun z0 => k (.d (.bool z0)) [.undef]) | _ => fun _ => none
noncomputable def code_87 : Code := (Tryz.f87.body).getD .skip
noncomputable def E_call_Is (g : C_call_Is) : Env A := mkE [(97, SS_call_Parts g.call_Parts)] [(3, [0])] [] [] [] [] [] [] [] []
theorem sm_call_Is (g : C_call_Is) : Same (SS_call_Is (@call_Is_ g)) (abody (E_call_Is g) Tryz.f87 code_87 1 [] [.asis] g.N) := by intro args; unfold SS_call_Is; split; exact .inr fun R k => (by kernel_rfl); exact .inl fun R k => rfl
theorem ok_call_Is [Fuel] : Ok 87 (SS_call_Is (@call_Is _)) := okF_of std (.cons ok_call_Parts .nil) ⟨rfl, rfl, by kernel_rfl, rfl, rfl, rfl⟩ (sm_call_Is I_call_Is) (cuts0 (fun _ => rfl) (by kernel_rfl)) Tryz.func87 (by kernel_rfl) (by kernel_rfl)
abbrev T_strings_Compare : Type 1 := List UInt8 → List UInt8 → {R : Type} → (Int → Option R) → Option R
def strings_Compare [Fuel] : T_strings_Compare := @X_cmp
def SS_strings_Compare (g : T_strings_Compare) : Spec A := SSX_cmp g
theorem ok_strings_Compare [Fuel] : Ok 93 (SS_strings_Compare (@strings_Compare _)) := ⟨ssx_cmp_sound (cmp_sound (Any.strings_Compare Tryz.lays106)), ssx_cmp_nat, enters_of (fn := Tryz.f93) Tryz.func93 (by kernel_rfl) (by kernel_rfl)⟩
theorem okd_strings_Compare [Fuel] : OkD 93 (SS_strings_Compare (@strings_Compare _)) := ⟨ssx_cmp_sound (cmp_sound (Any.strings_Compare Tryz.lays106)), ssx_cmp_nat, enters_of (fn := Tryz.f93) Tryz.func93 (by kernel_rfl) (by kernel_rfl)⟩
end Go.Am
