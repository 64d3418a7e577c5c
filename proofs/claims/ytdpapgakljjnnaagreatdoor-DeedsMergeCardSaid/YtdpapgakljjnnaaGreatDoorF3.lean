/- The functions of the program as Lean functions, each shown to be what the code computes, part 3. No condition: lemmas for the claim. -/
import Derived.Test.YtdpapgakljjnnaaGreatDoorF0
import Derived.Test.YtdpapgakljjnnaaGreatDoorFSh
import Derived.Test.YtdpapgakljjnnaaGreatDoorF2
set_option linter.unusedVariables false
set_option maxRecDepth 100000
namespace Go.Am
open Go Go.Proofs
abbrev T_z53z : Type 1 := List UInt8 → {R : Type} → Option R
def z53z_ (g : Nat) (a1 : List UInt8) {R : Type}  : Option R :=
 none
noncomputable def z53z [Fuel] : T_z53z := @z53z_ NN
def SS_z53z (g : T_z53z) : Spec A := fun args => match args with | [.d (.str a1)] => fun k => g a1 | _ => fun _ => none
noncomputable def code_226 : Code := (Tryz.f226.body).getD .skip
noncomputable def E_z53z (g : Nat) : Env A := mkE [] [] [] [] [] [] [] [] [] []
noncomputable def cb_z53z_L2 : Code := sub [1, 0, 1, 0, 0] code_226
theorem lf_z53z_L2 [Fuel] : LoopFine (E_z53z NN) NN cb_z53z_L2 := no_loop (by kernel_rfl)
theorem sm_z53z (g : Nat) : Same (SS_z53z (@z53z_ g)) (abody (E_z53z g) Tryz.f226 code_226 0 [] [.asis, .asis] g) := by intro args; unfold SS_z53z; split; exact .inr fun R k => (by kernel_rfl); exact .inl fun R k => rfl
theorem ok_z53z [Fuel] : Ok 226 (SS_z53z (@z53z _)) := okF_of std .nil ⟨rfl, rfl, by kernel_rfl, rfl, rfl, rfl⟩ (sm_z53z NN) (cutsL (fun _ => rfl) (.cons lf_z53z_L2 .nil) (by kernel_rfl)) Tryz.func226 (by kernel_rfl) (by kernel_rfl)
abbrev T_z70z : Type 1 := Int → {R : Type} → Option R
def z70z_ (g : Nat) (a1 : Int) {R : Type}  : Option R :=
 none
noncomputable def z70z [Fuel] : T_z70z := @z70z_ NN
def SS_z70z (g : T_z70z) : Spec A := fun args => match args with | [.d (.int .u8 a1)] => fun k => g a1 | _ => fun _ => none
noncomputable def code_308 : Code := (Tryz.f308.body).getD .skip
noncomputable def E_z70z (g : Nat) : Env A := mkE [] [] [] [] [] [] [] [] [] []
theorem sm_z70z (g : Nat) : Same (SS_z70z (@z70z_ g)) (abody (E_z70z g) Tryz.f308 code_308 0 [] [.asis] g) := by intro args; unfold SS_z70z; split; exact .inr fun R k => (by kernel_rfl); exact .inl fun R k => rfl
theorem ok_z70z [Fuel] : Ok 308 (SS_z70z (@z70z _)) := okF_of std .nil ⟨rfl, rfl, by kernel_rfl, rfl, rfl, rfl⟩ (sm_z70z NN) (cuts0 (fun _ => rfl) (by kernel_rfl)) Tryz.func308 (by kernel_rfl) (by kernel_rfl)
abbrev T_z48z : Type 1 := List UInt8 → {R : Type} → (Int → Int → Option R) → Option R
def z48z_ (g : Nat) (a1 : List UInt8) {R : Type} (k0 : Int → Int → Option R) : Option R :=
 (bif (decide ((a1.length : Int) < 1)) then k0 65533 0 else (at_ a1 0 fun x2 => none))
noncomputable def z48z [Fuel] : T_z48z := @z48z_ NN
def SS_z48z (g : T_z48z) : Spec A := fun args => match args with | [.d (.str a1)] => fun k => g a1 (fun z0 z1 => k (.tup [.d (.int .i32 z0), .d (.int .i64 z1)]) [.undef]) | _ => fun _ => none
noncomputable def code_307 : Code := (Tryz.f307.body).getD .skip
noncomputable def E_z48z (g : Nat) : Env A := mkE [] [] [] [] [] [] [] [] [] []
theorem sm_z48z (g : Nat) : Same (SS_z48z (@z48z_ g)) (abody (E_z48z g) Tryz.f307 code_307 0 [] [.asis, .asis] g) := by intro args; unfold SS_z48z; split; exact .inr fun R k => (by kernel_rfl); exact .inl fun R k => rfl
theorem ok_z48z [Fuel] : Ok 307 (SS_z48z (@z48z _)) := okF_of std .nil ⟨rfl, rfl, by kernel_rfl, rfl, rfl, rfl⟩ (sm_z48z NN) (cuts0 (fun _ => rfl) (by kernel_rfl)) Tryz.func307 (by kernel_rfl) (by kernel_rfl)
abbrev T_z42z : Type 1 := List UInt8 → {R : Type} → (Int → Int → Option R) → Option R
structure C_z42z where
 N : Nat
 z48z : T_z48z
def z42z_ (g : C_z42z) (a1 : List UInt8) {R : Type} (k0 : Int → Int → Option R) : Option R :=
 (bif (!(a1 == [])) then (at_ a1 0 fun x2 => (bif (decide ((x2.toNat : Int) < 128)) then (at_ a1 0 fun x3 => k0 (IntKind.i32.wrap (x3.toNat : Int)) 1) else (g.z48z a1 (fun r4 r5 => k0 r4 r5)))) else (g.z48z a1 (fun r6 r7 => k0 r6 r7)))
noncomputable def I_z42z [Fuel] : C_z42z := ⟨NN, @z48z _⟩
noncomputable def z42z [Fuel] : T_z42z := @z42z_ I_z42z
def SS_z42z (g : T_z42z) : Spec A := fun args => match args with | [.d (.str a1)] => fun k => g a1 (fun z0 z1 => k (.tup [.d (.int .i32 z0), .d (.int .i64 z1)]) [.undef]) | _ => fun _ => none
noncomputable def code_277 : Code := (Tryz.f277.body).getD .skip
noncomputable def E_z42z (g : C_z42z) : Env A := mkE [(307, SS_z48z g.z48z)] [] [] [] [] [] [] [] [] []
theorem sm_z42z (g : C_z42z) : Same (SS_z42z (@z42z_ g)) (abody (E_z42z g) Tryz.f277 code_277 0 [] [.asis, .asis] g.N) := by intro args; unfold SS_z42z; split; exact .inr fun R k => (by kernel_rfl); exact .inl fun R k => rfl
theorem ok_z42z [Fuel] : Ok 277 (SS_z42z (@z42z _)) := okF_of std (.cons ok_z48z .nil) ⟨rfl, rfl, by kernel_rfl, rfl, rfl, rfl⟩ (sm_z42z I_z42z) (cuts0 (fun _ => rfl) (by kernel_rfl)) Tryz.func277 (by kernel_rfl) (by kernel_rfl)
abbrev T_z16z : Type 1 := List UInt8 → {R : Type} → (Int → Int → Option R) → Option R
structure C_z16z where
 N : Nat
 z42z : T_z42z
 z70z : T_z70z
def z16z_L10 (g : C_z16z) : Nat → List UInt8 → Int → Int → Int → {R : Type} → (List UInt8 → Int → Int → Option R) → Option R
 | 0, _, _, _, _, _, _ => none
 | n + 1, v3, v4, v5, v6, _, e0 => (bif (decide (v5 ≥ v6)) then (get_ v3 v5 fun x8 => (g.z70z (x8.toNat : Int))) else e0 v3 v4 v5)
def z16z_ (g : C_z16z) (a1 : List UInt8) {R : Type} (k0 : Int → Int → Option R) : Option R :=
 (bif ((a1.length : Int) == 0) then k0 65533 0 else (get_ a1 (w64 ((a1.length : Int) - 1)) fun x2 => (bif (decide ((IntKind.i32.wrap (x2.toNat : Int)) < 128)) then k0 (IntKind.i32.wrap (x2.toNat : Int)) 1 else (z16z_L10 g g.N a1 (a1.length : Int) (w64 ((w64 ((a1.length : Int) - 1)) - 1)) (if 0 > (w64 ((a1.length : Int) - 4)) then 0 else (w64 ((a1.length : Int) - 4))) (fun e9 e10 e11 => (bif (decide (e11 < 0)) then (bif (decide (0 ≤ 0) && (decide (0 ≤ e10) && decide (e10 ≤ (e9.length : Int)))) then (g.z42z ((e9.take (e10 : Int).toNat).drop (0 : Int).toNat) (fun r12 r13 => (bif ((w64 (0 + r13)) != e10) then k0 65533 1 else k0 r12 r13))) else none) else (bif (decide (0 ≤ e11) && (decide (e11 ≤ e10) && decide (e10 ≤ (e9.length : Int)))) then (g.z42z ((e9.take (e10 : Int).toNat).drop (e11 : Int).toNat) (fun r14 r15 => (bif ((w64 (e11 + r15)) != e10) then k0 65533 1 else k0 r14 r15))) else none)))))))
noncomputable def I_z16z [Fuel] : C_z16z := ⟨NN, @z42z _, @z70z _⟩
noncomputable def z16z [Fuel] : T_z16z := @z16z_ I_z16z
def SS_z16z (g : T_z16z) : Spec A := fun args => match args with | [.d (.str a1)] => fun k => g a1 (fun z0 z1 => k (.tup [.d (.int .i32 z0), .d (.int .i64 z1)]) [.undef]) | _ => fun _ => none
def sh_z16z_L10 : SSt := mkSh 51 0 [(0, .str), (4, .int .i64), (5, .int .i64), (6, .int .i64)] []
def LP_z16z_L10 (g : C_z16z) (n : Nat) : LPT A := fun ps => match ps with | [.d (.str p1), .d (.int .i64 p2), .d (.int .i64 p3), .d (.int .i64 p4)] => fun K => z16z_L10 g n p1 p2 p3 p4 (fun z0 z1 z2 => K (.exit 0) (mkSt 51 0 [(0, .d (.str z0)), (4, .d (.int .i64 z1)), (5, .d (.int .i64 z2))] [])) | _ => fun _ => none
noncomputable def code_279 : Code := (Tryz.f279.body).getD .skip
noncomputable def E_z16z (g : C_z16z) : Env A := mkE [(277, SS_z42z g.z42z), (308, SS_z70z g.z70z)] [] [(10, ⟨[0, 4, 5, 6], [], [], [], [], [], []⟩)] [(10, ⟨[0, 4, 5], [], [], [], [], [], []⟩)] [(10, pieceOf sh_z16z_L10 (LP_z16z_L10 g g.N))] [] [] [] [] []
theorem ct_z16z [Fuel] : NatTab (E_z16z I_z16z).C := ct_of (P := Tryz.prog) (T := T) (.cons ok_z42z (.cons ok_z70z .nil)) (by kernel_rfl)
noncomputable def cb_z16z_L10 : Code := sub [1, 1, 1, 1, 1, 1, 1, 0, 1, 0, 0] code_279
theorem s_z16z_L10 (g : C_z16z) (n : Nat) : StepOk (E_z16z g) g.N cb_z16z_L10 sh_z16z_L10 (LP_z16z_L10 g) n := by intro ps; unfold LP_z16z_L10; split; exact .inr fun R K => (by kernel_rfl); exact .inl fun R K => rfl
theorem lf_z16z_L10 [Fuel] : LoopFine (E_z16z I_z16z) NN cb_z16z_L10 := fine_loop sh_z16z_L10 (LP_z16z_L10 I_z16z) (by kernel_rfl) ct_z16z (cuts0 (fun _ => rfl) (by kernel_rfl)) (fun ps R K => by unfold LP_z16z_L10; split <;> (try unfold z16z_L10) <;> rfl) (s_z16z_L10 I_z16z)
theorem sm_z16z (g : C_z16z) : Same (SS_z16z (@z16z_ g)) (abody (E_z16z g) Tryz.f279 code_279 0 [] [.asis, .asis] g.N) := by intro args; unfold SS_z16z; split; exact .inr fun R k => (by kernel_rfl); exact .inl fun R k => rfl
theorem ok_z16z [Fuel] : Ok 279 (SS_z16z (@z16z _)) := okF_of std (.cons ok_z42z (.cons ok_z70z .nil)) ⟨rfl, rfl, by kernel_rfl, rfl, rfl, rfl⟩ (sm_z16z I_z16z) (cutsL (fun _ => rfl) (.cons lf_z16z_L10 .nil) (by kernel_rfl)) Tryz.func279 (by kernel_rfl) (by kernel_rfl)
abbrev T_z10z : Type 1 := List UInt8 → List UInt8 → {R : Type} → (Int → Option R) → Option R
structure C_z10z where
 N : Nat
 z53z : T_z53z
 z16z : T_z16z
 strings_IndexRune : T_strings_IndexRune
 z51z : T_z51z
def z10z_L24 (g : C_z10z) : Nat → List UInt8 → Int → Int → {R : Type} → (Int → Option R) → Option R → Option R
 | 0, _, _, _, _, _, _ => none
 | n + 1, v8, v9, v10, _, e0, e1 => (bif (decide (v10 > 0)) then (bif (decide (0 ≤ v10) && decide (v10 ≤ (v8.length : Int))) then (g.z16z (v8.take (v10 : Int).toNat) (fun r13 r14 => (bif (v9 == r13) then e0 (w64 (v10 - r14)) else z10z_L24 g n v8 v9 (w64 (v10 - r14)) e0 e1))) else none) else e1)
def z10z_L31 (g : C_z10z) : Nat → List UInt8 → List UInt8 → Int → {R : Type} → (Int → Option R) → Option R → Option R
 | 0, _, _, _, _, _, _ => none
 | n + 1, v17, v18, v19, _, e0, e1 => (bif (decide (v19 > 0)) then (bif (decide (0 ≤ v19) && decide (v19 ≤ (v17.length : Int))) then (g.z16z (v17.take (v19 : Int).toNat) (fun r23 r24 => (g.strings_IndexRune v18 r23 (fun r25 => (bif (decide (r25 ≥ 0)) then e0 (w64 (v19 - r24)) else z10z_L31 g n v17 v18 (w64 (v19 - r24)) e0 e1))))) else none) else e1)
def z10z_ (g : C_z10z) (a1 a2 : List UInt8) {R : Type} (k0 : Int → Option R) : Option R :=
 (bif (a2 == []) then k0 (-1) else (bif ((a1.length : Int) == 1) then (at_ a1 0 fun x3 => (bif (decide ((IntKind.i32.wrap (x3.toNat : Int)) ≥ 128)) then (g.strings_IndexRune a2 65533 (fun r4 => (bif (decide (r4 ≥ 0)) then k0 0 else k0 (-1)))) else (g.strings_IndexRune a2 (IntKind.i32.wrap (x3.toNat : Int)) (fun r5 => (bif (decide (r5 ≥ 0)) then k0 0 else k0 (-1)))))) else (g.z51z (a1.length : Int) (fun r6 => (bif r6 then (g.z53z a2) else (bif ((a2.length : Int) == 1) then (at_ a2 0 fun x7 => (bif (decide ((IntKind.i32.wrap (x7.toNat : Int)) ≥ 128)) then (z10z_L24 g g.N a1 65533 (a1.length : Int) (fun e15 => k0 e15) (k0 (-1))) else (z10z_L24 g g.N a1 (IntKind.i32.wrap (x7.toNat : Int)) (a1.length : Int) (fun e16 => k0 e16) (k0 (-1))))) else (z10z_L31 g g.N a1 a2 (a1.length : Int) (fun e26 => k0 e26) (k0 (-1)))))))))
noncomputable def I_z10z [Fuel] : C_z10z := ⟨NN, @z53z _, @z16z _, @strings_IndexRune _, @z51z _⟩
noncomputable def z10z [Fuel] : T_z10z := @z10z_ I_z10z
def SS_z10z (g : T_z10z) : Spec A := fun args => match args with | [.d (.str a1), .d (.str a2)] => fun k => g a1 a2 (fun z0 => k (.d (.int .i64 z0)) [.undef, .undef]) | _ => fun _ => none
def sh_z10z_L24 : SSt := mkSh 96 0 [(0, .str), (9, .int .i32), (10, .int .i64)] []
def LP_z10z_L24 (g : C_z10z) (n : Nat) : LPT A := fun ps => match ps with | [.d (.str p1), .d (.int .i32 p2), .d (.int .i64 p3)] => fun K => z10z_L24 g n p1 p2 p3 (fun z0 => K .ret (mkSt 96 0 [(4, .d (.int .i64 z0))] [])) (K (.exit 2) (mkSt 96 0 [] [])) | _ => fun _ => none
def sh_z10z_L31 : SSt := mkSh 96 0 [(0, .str), (1, .str), (13, .int .i64)] []
def LP_z10z_L31 (g : C_z10z) (n : Nat) : LPT A := fun ps => match ps with | [.d (.str p1), .d (.str p2), .d (.int .i64 p3)] => fun K => z10z_L31 g n p1 p2 p3 (fun z0 => K .ret (mkSt 96 0 [(4, .d (.int .i64 z0))] [])) (K (.exit 4) (mkSt 96 0 [] [])) | _ => fun _ => none
noncomputable def code_236 : Code := (Tryz.f236.body).getD .skip
noncomputable def E_z10z (g : C_z10z) : Env A := mkE [(226, SS_z53z g.z53z), (279, SS_z16z g.z16z), (284, SS_strings_IndexRune g.strings_IndexRune), (285, SS_z51z g.z51z)] [] [(24, ⟨[0, 9, 10], [], [], [], [], [], []⟩), (31, ⟨[0, 1, 13], [], [], [], [], [], []⟩)] [(24, ⟨[4], [], [], [], [], [], []⟩), (31, ⟨[4], [], [], [], [], [], []⟩)] [(24, pieceOf sh_z10z_L24 (LP_z10z_L24 g g.N)), (31, pieceOf sh_z10z_L31 (LP_z10z_L31 g g.N))] [] [] [] [] []
theorem ct_z10z [Fuel] : NatTab (E_z10z I_z10z).C := ct_of (P := Tryz.prog) (T := T) (.cons ok_z53z (.cons ok_z16z (.cons ok_strings_IndexRune (.cons ok_z51z .nil)))) (by kernel_rfl)
noncomputable def cb_z10z_L14 : Code := sub [1, 1, 1, 0, 1, 0, 1, 1, 0, 0, 1, 0, 0] code_236
theorem lf_z10z_L14 [Fuel] : LoopFine (E_z10z I_z10z) NN cb_z10z_L14 := no_loop (by kernel_rfl)
noncomputable def cb_z10z_L24 : Code := sub [1, 1, 1, 1, 0, 1, 0, 1, 1, 0, 1, 0, 0] code_236
theorem s_z10z_L24 (g : C_z10z) (n : Nat) : StepOk (E_z10z g) g.N cb_z10z_L24 sh_z10z_L24 (LP_z10z_L24 g) n := by intro ps; unfold LP_z10z_L24; split; exact .inr fun R K => (by kernel_rfl); exact .inl fun R K => rfl
theorem lf_z10z_L24 [Fuel] : LoopFine (E_z10z I_z10z) NN cb_z10z_L24 := fine_loop sh_z10z_L24 (LP_z10z_L24 I_z10z) (by kernel_rfl) ct_z10z (cuts0 (fun _ => rfl) (by kernel_rfl)) (fun ps R K => by unfold LP_z10z_L24; split <;> (try unfold z10z_L24) <;> rfl) (s_z10z_L24 I_z10z)
noncomputable def cb_z10z_L31 : Code := sub [1, 1, 1, 1, 1, 0, 1, 0, 0] code_236
theorem s_z10z_L31 (g : C_z10z) (n : Nat) : StepOk (E_z10z g) g.N cb_z10z_L31 sh_z10z_L31 (LP_z10z_L31 g) n := by intro ps; unfold LP_z10z_L31; split; exact .inr fun R K => (by kernel_rfl); exact .inl fun R K => rfl
theorem lf_z10z_L31 [Fuel] : LoopFine (E_z10z I_z10z) NN cb_z10z_L31 := fine_loop sh_z10z_L31 (LP_z10z_L31 I_z10z) (by kernel_rfl) ct_z10z (cuts0 (fun _ => rfl) (by kernel_rfl)) (fun ps R K => by unfold LP_z10z_L31; split <;> (try unfold z10z_L31) <;> rfl) (s_z10z_L31 I_z10z)
theorem sm_z10z (g : C_z10z) : Same (SS_z10z (@z10z_ g)) (abody (E_z10z g) Tryz.f236 code_236 0 [] [.asis] g.N) := by intro args; unfold SS_z10z; split; exact .inr fun R k => (by kernel_rfl); exact .inl fun R k => rfl
theorem ok_z10z [Fuel] : Ok 236 (SS_z10z (@z10z _)) := okF_of std (.cons ok_z53z (.cons ok_z16z (.cons ok_strings_IndexRune (.cons ok_z51z .nil)))) ⟨rfl, rfl, by kernel_rfl, rfl, rfl, rfl⟩ (sm_z10z I_z10z) (cutsL (fun _ => rfl) (.cons lf_z10z_L14 (.cons lf_z10z_L24 (.cons lf_z10z_L31 .nil))) (by kernel_rfl)) Tryz.func236 (by kernel_rfl) (by kernel_rfl)
abbrev T_R_in : Type 1 := Int → Int → Int → {R : Type} → (Bool → Option R) → Option R
def R_in_ (g : Nat) (a1 a2 a3 : Int) {R : Type} (k0 : Bool → Option R) : Option R :=
 (bif (decide (a2 ≤ a1)) then k0 (decide (a1 ≤ a3)) else k0 false)
noncomputable def R_in [Fuel] : T_R_in := @R_in_ NN
def SS_R_in (g : T_R_in) : Spec A := fun args => match args with | [.d (.int .i64 a1), .d (.int .i64 a2), .d (.int .i64 a3)] => fun k => g a1 a2 a3 (fun z0 => k (.d (.bool z0)) [.undef, .undef, .undef]) | _ => fun _ => none
noncomputable def code_238 : Code := (Tryz.f238.body).getD .skip
noncomputable def E_R_in (g : Nat) : Env A := mkE [] [] [] [] [] [] [] [] [] []
theorem sm_R_in (g : Nat) : Same (SS_R_in (@R_in_ g)) (abody (E_R_in g) Tryz.f238 code_238 0 [] [.asis] g) := by intro args; unfold SS_R_in; split; exact .inr fun R k => (by kernel_rfl); exact .inl fun R k => rfl
theorem ok_R_in [Fuel] : Ok 238 (SS_R_in (@R_in _)) := okF_of std .nil ⟨rfl, rfl, by kernel_rfl, rfl, rfl, rfl⟩ (sm_R_in NN) (cuts0 (fun _ => rfl) (by kernel_rfl)) Tryz.func238 (by kernel_rfl) (by kernel_rfl)
abbrev T_strings_Trim : Type 1 := List UInt8 → List UInt8 → {R : Type} → (List UInt8 → Option R) → Option R
def strings_Trim [Fuel] : T_strings_Trim := @X_trim
def SS_strings_Trim (g : T_strings_Trim) : Spec A := SSX_trim g
theorem ok_strings_Trim [Fuel] : Ok 174 (SS_strings_Trim (@strings_Trim _)) := ⟨ssx_trim_sound (trim_sound rfl (fun s cs w h1 h2 h3 => Any.strings_Trim_laid Tryz.lays160 (by kernel_rfl) s cs w h1 h2 h3)), ssx_trim_nat, enters_of (fn := Tryz.f174) Tryz.func174 (by kernel_rfl) (by kernel_rfl)⟩
abbrev T_strings_ContainsAny : Type 1 := List UInt8 → List UInt8 → {R : Type} → (Bool → Option R) → Option R
def strings_ContainsAny [Fuel] : T_strings_ContainsAny := @X_cany
def SS_strings_ContainsAny (g : T_strings_ContainsAny) : Spec A := SSX_cany g
theorem ok_strings_ContainsAny [Fuel] : Ok 239 (SS_strings_ContainsAny (@strings_ContainsAny _)) := ⟨ssx_cany_sound (cany_sound rfl (fun s cs w h1 h2 h3 h4 => Any.strings_ContainsAny_laid Tryz.lays150 (by kernel_rfl) s cs w h1 h2 h3 h4)), ssx_cany_nat, enters_of (fn := Tryz.f239) Tryz.func239 (by kernel_rfl) (by kernel_rfl)⟩
abbrev T_R_plain : Type 1 := List UInt8 → Int → Int → {R : Type} → (Bool → Option R) → Option R
structure C_R_plain where
 N : Nat
 strings_Trim : T_strings_Trim
 R_in : T_R_in
 strings_ContainsAny : T_strings_ContainsAny
def R_plain_ (g : C_R_plain) (a1 : List UInt8) (a2 a3 : Int) {R : Type} (k0 : Bool → Option R) : Option R :=
 (g.R_in (a1.length : Int) a2 a3 (fun r4 => (bif r4 then (g.strings_Trim a1 [97, 98, 99, 100, 101, 102, 103, 104, 105, 106, 107, 108, 109, 110, 111, 112, 113, 114, 115, 116, 117, 118, 119, 120, 121, 122, 48, 49, 50, 51, 52, 53, 54, 55, 56, 57] (fun r5 => (bif (r5 == []) then (g.strings_ContainsAny a1 [97, 98, 99, 100, 101, 102, 103, 104, 105, 106, 107, 108, 109, 110, 111, 112, 113, 114, 115, 116, 117, 118, 119, 120, 121, 122] (fun r6 => k0 r6)) else k0 false))) else k0 false)))
noncomputable def I_R_plain [Fuel] : C_R_plain := ⟨NN, @strings_Trim _, @R_in _, @strings_ContainsAny _⟩
noncomputable def R_plain [Fuel] : T_R_plain := @R_plain_ I_R_plain
def SS_R_plain (g : T_R_plain) : Spec A := fun args => match args with | [.d (.str a1), .d (.int .i64 a2), .d (.int .i64 a3)] => fun k => g a1 a2 a3 (fun z0 => k (.d (.bool z0)) [.undef, .undef, .undef]) | _ => fun _ => none
noncomputable def code_237 : Code := (Tryz.f237.body).getD .skip
noncomputable def E_R_plain (g : C_R_plain) : Env A := mkE [(174, SS_strings_Trim g.strings_Trim), (238, SS_R_in g.R_in), (239, SS_strings_ContainsAny g.strings_ContainsAny)] [] [] [] [] [] [] [] [] []
theorem sm_R_plain (g : C_R_plain) : Same (SS_R_plain (@R_plain_ g)) (abody (E_R_plain g) Tryz.f237 code_237 0 [] [.asis] g.N) := by intro args; unfold SS_R_plain; split; exact .inr fun R k => (by kernel_rfl); exact .inl fun R k => rfl
theorem ok_R_plain [Fuel] : Ok 237 (SS_R_plain (@R_plain _)) := okF_of std (.cons ok_strings_Trim (.cons ok_R_in (.cons ok_strings_ContainsAny .nil))) ⟨rfl, rfl, by kernel_rfl, rfl, rfl, rfl⟩ (sm_R_plain I_R_plain) (cuts0 (fun _ => rfl) (by kernel_rfl)) Tryz.func237 (by kernel_rfl) (by kernel_rfl)
abbrev T_R_baseAt : Type 1 := List UInt8 → {R : Type} → (Int → Option R) → Option R
structure C_R_baseAt where
 N : Nat
 z10z : T_z10z
 R_plain : T_R_plain
 R_in : T_R_in
 strings_ContainsAny : T_strings_ContainsAny
def R_baseAt_ (g : C_R_baseAt) (a1 : List UInt8) {R : Type} (k0 : Int → Option R) : Option R :=
 (g.z10z a1 [48, 49, 50, 51, 52, 53, 54, 55, 56, 57] (fun r2 => (g.R_plain a1 3 10 (fun r3 => (bif (!r3) then k0 (-1) else (g.R_in r2 1 3 (fun r4 => (bif (!r4) then k0 (-1) else (g.R_in (w64 ((w64 ((a1.length : Int) - 1)) - r2)) 1 4 (fun r5 => (bif (!r5) then k0 (-1) else (bif (decide (0 ≤ r2) && decide (r2 ≤ (a1.length : Int))) then (g.strings_ContainsAny (a1.take (r2 : Int).toNat) [97, 98, 99, 100, 101, 102, 103, 104, 105, 106, 107, 108, 109, 110, 111, 112, 113, 114, 115, 116, 117, 118, 119, 120, 121, 122] (fun r6 => (bif (!r6) then k0 (-1) else k0 r2))) else none))))))))))))
noncomputable def I_R_baseAt [Fuel] : C_R_baseAt := ⟨NN, @z10z _, @R_plain _, @R_in _, @strings_ContainsAny _⟩
noncomputable def R_baseAt [Fuel] : T_R_baseAt := @R_baseAt_ I_R_baseAt
def SS_R_baseAt (g : T_R_baseAt) : Spec A := fun args => match args with | [.d (.str a1)] => fun k => g a1 (fun z0 => k (.d (.int .i64 z0)) [.undef]) | _ => fun _ => none
noncomputable def code_182 : Code := (Tryz.f182.body).getD .skip
noncomputable def E_R_baseAt (g : C_R_baseAt) : Env A := mkE [(236, SS_z10z g.z10z), (237, SS_R_plain g.R_plain), (238, SS_R_in g.R_in), (239, SS_strings_ContainsAny g.strings_ContainsAny)] [] [] [] [] [] [] [] [] []
theorem sm_R_baseAt (g : C_R_baseAt) : Same (SS_R_baseAt (@R_baseAt_ g)) (abody (E_R_baseAt g) Tryz.f182 code_182 0 [] [.asis] g.N) := by intro args; unfold SS_R_baseAt; split; exact .inr fun R k => (by kernel_rfl); exact .inl fun R k => rfl
theorem ok_R_baseAt [Fuel] : Ok 182 (SS_R_baseAt (@R_baseAt _)) := okF_of std (.cons ok_z10z (.cons ok_R_plain (.cons ok_R_in (.cons ok_strings_ContainsAny .nil)))) ⟨rfl, rfl, by kernel_rfl, rfl, rfl, rfl⟩ (sm_R_baseAt I_R_baseAt) (cuts0 (fun _ => rfl) (by kernel_rfl)) Tryz.func182 (by kernel_rfl) (by kernel_rfl)
abbrev T_z68z : Type 1 := List UInt8 → {R : Type} → (G_Parts → Option R) → Option R
structure C_z68z where
 N : Nat
 R_baseAt : T_R_baseAt
def z68z_ (g : C_z68z) (a1 : List UInt8) {R : Type} (k0 : G_Parts → Option R) : Option R :=
 (g.R_baseAt a1 (fun r2 => (bif (decide (0 ≤ (w64 (r2 + 1))) && decide ((w64 (r2 + 1)) ≤ (a1.length : Int))) then (bif (decide (0 ≤ (w64 (r2 + 1))) && decide ((w64 (r2 + 1)) ≤ (a1.length : Int))) then k0 (⟨a1, (a1.take ((w64 (r2 + 1)) : Int).toNat), (a1.drop ((w64 (r2 + 1)) : Int).toNat), 0, []⟩ : G_Parts) else none) else none)))
noncomputable def I_z68z [Fuel] : C_z68z := ⟨NN, @R_baseAt _⟩
noncomputable def z68z [Fuel] : T_z68z := @z68z_ I_z68z
def SS_z68z (g : T_z68z) : Spec A := fun args => match args with | [.d (.str a1)] => fun k => g a1 (fun z0 => k (.agg [.d (.str z0.f_Base), .d (.str z0.f_Prefix), .d (.str z0.f_Suffix), .d (.int .i64 z0.f_Kind), .d (.str z0.f_Added)]) [.undef]) | _ => fun _ => none
noncomputable def code_181 : Code := (Tryz.f181.body).getD .skip
noncomputable def E_z68z (g : C_z68z) : Env A := mkE [(182, SS_R_baseAt g.R_baseAt)] [(2, [0])] [] [] [] [] [] [] [] []
theorem sm_z68z (g : C_z68z) : Same (SS_z68z (@z68z_ g)) (abody (E_z68z g) Tryz.f181 code_181 1 [] [.asis] g.N) := by intro args; unfold SS_z68z; split; exact .inr fun R k => (by kernel_rfl); exact .inl fun R k => rfl
theorem ok_z68z [Fuel] : Ok 181 (SS_z68z (@z68z _)) := okF_of std (.cons ok_R_baseAt .nil) ⟨rfl, rfl, by kernel_rfl, rfl, rfl, rfl⟩ (sm_z68z I_z68z) (cuts0 (fun _ => rfl) (by kernel_rfl)) Tryz.func181 (by kernel_rfl) (by kernel_rfl)
abbrev T_R_begin : Type 1 := List UInt8 → {R : Type} → (Bool → Option R) → Option R
structure C_R_begin where
 N : Nat
 R_plain : T_R_plain
def R_begin_ (g : C_R_begin) (a1 : List UInt8) {R : Type} (k0 : Bool → Option R) : Option R :=
 (g.R_plain a1 1 4 (fun r2 => k0 r2))
noncomputable def I_R_begin [Fuel] : C_R_begin := ⟨NN, @R_plain _⟩
noncomputable def R_begin [Fuel] : T_R_begin := @R_begin_ I_R_begin
def SS_R_begin (g : T_R_begin) : Spec A := fun args => match args with | [.d (.str a1)] => fun k => g a1 (fun z0 => k (.d (.bool z0)) [.undef]) | _ => fun _ => none
noncomputable def code_183 : Code := (Tryz.f183.body).getD .skip
noncomputable def E_R_begin (g : C_R_begin) : Env A := mkE [(237, SS_R_plain g.R_plain)] [] [] [] [] [] [] [] [] []
theorem sm_R_begin (g : C_R_begin) : Same (SS_R_begin (@R_begin_ g)) (abody (E_R_begin g) Tryz.f183 code_183 0 [] [.asis] g.N) := by intro args; unfold SS_R_begin; split; exact .inr fun R k => (by kernel_rfl); exact .inl fun R k => rfl
theorem ok_R_begin [Fuel] : Ok 183 (SS_R_begin (@R_begin _)) := okF_of std (.cons ok_R_plain .nil) ⟨rfl, rfl, by kernel_rfl, rfl, rfl, rfl⟩ (sm_R_begin I_R_begin) (cuts0 (fun _ => rfl) (by kernel_rfl)) Tryz.func183 (by kernel_rfl) (by kernel_rfl)
abbrev T_strings_Index : Type 1 := List UInt8 → List UInt8 → {R : Type} → (Int → Option R) → Option R
structure C_strings_Index where
 N : Nat
 stringslite_Index : T_stringslite_Index
def strings_Index_ (g : C_strings_Index) (a1 a2 : List UInt8) {R : Type} (k0 : Int → Option R) : Option R :=
 (g.stringslite_Index a1 a2 (fun r3 => k0 r3))
noncomputable def I_strings_Index [Fuel] : C_strings_Index := ⟨NN, @stringslite_Index _⟩
noncomputable def strings_Index [Fuel] : T_strings_Index := @strings_Index_ I_strings_Index
def SS_strings_Index (g : T_strings_Index) : Spec A := fun args => match args with | [.d (.str a1), .d (.str a2)] => fun k => g a1 a2 (fun z0 => k (.d (.int .i64 z0)) [.undef, .undef]) | _ => fun _ => none
noncomputable def code_240 : Code := (Tryz.f240.body).getD .skip
noncomputable def E_strings_Index (g : C_strings_Index) : Env A := mkE [(283, SS_stringslite_Index g.stringslite_Index)] [] [] [] [] [] [] [] [] []
theorem sm_strings_Index (g : C_strings_Index) : Same (SS_strings_Index (@strings_Index_ g)) (abody (E_strings_Index g) Tryz.f240 code_240 0 [] [.asis] g.N) := by intro args; unfold SS_strings_Index; split; exact .inr fun R k => (by kernel_rfl); exact .inl fun R k => rfl
theorem ok_strings_Index [Fuel] : Ok 240 (SS_strings_Index (@strings_Index _)) := okF_of std (.cons ok_stringslite_Index .nil) ⟨rfl, rfl, by kernel_rfl, rfl, rfl, rfl⟩ (sm_strings_Index I_strings_Index) (cuts0 (fun _ => rfl) (by kernel_rfl)) Tryz.func240 (by kernel_rfl) (by kernel_rfl)
abbrev T_strings_Contains : Type 1 := List UInt8 → List UInt8 → {R : Type} → (Bool → Option R) → Option R
structure C_strings_Contains where
 N : Nat
 strings_Index : T_strings_Index
def strings_Contains_ (g : C_strings_Contains) (a1 a2 : List UInt8) {R : Type} (k0 : Bool → Option R) : Option R :=
 (g.strings_Index a1 a2 (fun r3 => k0 (decide (r3 ≥ 0))))
noncomputable def I_strings_Contains [Fuel] : C_strings_Contains := ⟨NN, @strings_Index _⟩
noncomputable def strings_Contains [Fuel] : T_strings_Contains := @strings_Contains_ I_strings_Contains
def SS_strings_Contains (g : T_strings_Contains) : Spec A := fun args => match args with | [.d (.str a1), .d (.str a2)] => fun k => g a1 a2 (fun z0 => k (.d (.bool z0)) [.undef, .undef]) | _ => fun _ => none
noncomputable def code_184 : Code := (Tryz.f184.body).getD .skip
noncomputable def E_strings_Contains (g : C_strings_Contains) : Env A := mkE [(240, SS_strings_Index g.strings_Index)] [] [] [] [] [] [] [] [] []
theorem sm_strings_Contains (g : C_strings_Contains) : Same (SS_strings_Contains (@strings_Contains_ g)) (abody (E_strings_Contains g) Tryz.f184 code_184 0 [] [.asis] g.N) := by intro args; unfold SS_strings_Contains; split; exact .inr fun R k => (by kernel_rfl); exact .inl fun R k => rfl
theorem ok_strings_Contains [Fuel] : Ok 184 (SS_strings_Contains (@strings_Contains _)) := okF_of std (.cons ok_strings_Index .nil) ⟨rfl, rfl, by kernel_rfl, rfl, rfl, rfl⟩ (sm_strings_Contains I_strings_Contains) (cuts0 (fun _ => rfl) (by kernel_rfl)) Tryz.func184 (by kernel_rfl) (by kernel_rfl)
abbrev T_R_PartsOf : Type 1 := List UInt8 → {R : Type} → (G_Parts → Bool → Option R) → Option R
structure C_R_PartsOf where
 N : Nat
 z67z : T_z67z
 z68z : T_z68z
 R_baseAt : T_R_baseAt
 R_begin : T_R_begin
 strings_Contains : T_strings_Contains
def R_PartsOf_ (g : C_R_PartsOf) (a1 : List UInt8) {R : Type} (k0 : G_Parts → Bool → Option R) : Option R :=
 (g.z67z a1 [47] (fun r2 r3 r4 => (bif (decide ((a1.length : Int) > 14)) then k0 (⟨[], [], [], 0, []⟩ : G_Parts) false else (bif (!r4) then (g.R_baseAt r2 (fun r5 => (bif (decide (r5 < 0)) then k0 (⟨[], [], [], 0, []⟩ : G_Parts) false else (g.z68z r2 (fun r6 => k0 r6 true))))) else (g.R_baseAt r3 (fun r7 => (bif (decide (r7 ≥ 0)) then (g.R_begin r2 (fun r8 => (bif r8 then (g.z68z r3 (fun r9 => k0 (⟨r9.f_Base, r9.f_Prefix, r9.f_Suffix, 1, r2⟩ : G_Parts) true)) else (g.R_baseAt r2 (fun r10 => (bif (decide (r10 < 0)) then k0 (⟨[], [], [], 0, []⟩ : G_Parts) false else (g.z68z r2 (fun r11 => (bif (r3 == [112]) then k0 (⟨r11.f_Base, r11.f_Prefix, r11.f_Suffix, 3, r11.f_Added⟩ : G_Parts) true else (bif (r3 == [109]) then k0 (⟨r11.f_Base, r11.f_Prefix, r11.f_Suffix, 4, r11.f_Added⟩ : G_Parts) true else (bif (r3 == [109, 109]) then k0 (⟨r11.f_Base, r11.f_Prefix, r11.f_Suffix, 5, r11.f_Added⟩ : G_Parts) true else (bif (r3 == [97, 109]) then k0 (⟨r11.f_Base, r11.f_Prefix, r11.f_Suffix, 6, r11.f_Added⟩ : G_Parts) true else (bif ((r3.length : Int) == 1) then (g.strings_Contains [48, 49, 50, 51, 52, 53, 54, 55, 56, 57] r3 (fun r12 => (bif r12 then k0 (⟨r11.f_Base, r11.f_Prefix, r11.f_Suffix, 2, r3⟩ : G_Parts) true else (g.R_begin r3 (fun r13 => (bif r13 then k0 (⟨r11.f_Base, r11.f_Prefix, r11.f_Suffix, 1, r3⟩ : G_Parts) true else k0 (⟨[], [], [], 0, []⟩ : G_Parts) false)))))) else (g.R_begin r3 (fun r14 => (bif r14 then k0 (⟨r11.f_Base, r11.f_Prefix, r11.f_Suffix, 1, r3⟩ : G_Parts) true else k0 (⟨[], [], [], 0, []⟩ : G_Parts) false)))))))))))))))) else (g.R_baseAt r2 (fun r15 => (bif (decide (r15 < 0)) then k0 (⟨[], [], [], 0, []⟩ : G_Parts) false else (g.z68z r2 (fun r16 => (bif (r3 == [112]) then k0 (⟨r16.f_Base, r16.f_Prefix, r16.f_Suffix, 3, r16.f_Added⟩ : G_Parts) true else (bif (r3 == [109]) then k0 (⟨r16.f_Base, r16.f_Prefix, r16.f_Suffix, 4, r16.f_Added⟩ : G_Parts) true else (bif (r3 == [109, 109]) then k0 (⟨r16.f_Base, r16.f_Prefix, r16.f_Suffix, 5, r16.f_Added⟩ : G_Parts) true else (bif (r3 == [97, 109]) then k0 (⟨r16.f_Base, r16.f_Prefix, r16.f_Suffix, 6, r16.f_Added⟩ : G_Parts) true else (bif ((r3.length : Int) == 1) then (g.strings_Contains [48, 49, 50, 51, 52, 53, 54, 55, 56, 57] r3 (fun r17 => (bif r17 then k0 (⟨r16.f_Base, r16.f_Prefix, r16.f_Suffix, 2, r3⟩ : G_Parts) true else (g.R_begin r3 (fun r18 => (bif r18 then k0 (⟨r16.f_Base, r16.f_Prefix, r16.f_Suffix, 1, r3⟩ : G_Parts) true else k0 (⟨[], [], [], 0, []⟩ : G_Parts) false)))))) else (g.R_begin r3 (fun r19 => (bif r19 then k0 (⟨r16.f_Base, r16.f_Prefix, r16.f_Suffix, 1, r3⟩ : G_Parts) true else k0 (⟨[], [], [], 0, []⟩ : G_Parts) false))))))))))))))))))))
noncomputable def I_R_PartsOf [Fuel] : C_R_PartsOf := ⟨NN, @z67z _, @z68z _, @R_baseAt _, @R_begin _, @strings_Contains _⟩
noncomputable def R_PartsOf [Fuel] : T_R_PartsOf := @R_PartsOf_ I_R_PartsOf
def SS_R_PartsOf (g : T_R_PartsOf) : Spec A := fun args => match args with | [.d (.str a1)] => fun k => g a1 (fun z0 z1 => k (.tup [.agg [.d (.str z0.f_Base), .d (.str z0.f_Prefix), .d (.str z0.f_Suffix), .d (.int .i64 z0.f_Kind), .d (.str z0.f_Added)], .d (.bool z1)]) [.undef]) | _ => fun _ => none
noncomputable def code_127 : Code := (Tryz.f127.body).getD .skip
noncomputable def E_R_PartsOf (g : C_R_PartsOf) : Env A := mkE [(180, SS_z67z g.z67z), (181, SS_z68z g.z68z), (182, SS_R_baseAt g.R_baseAt), (183, SS_R_begin g.R_begin), (184, SS_strings_Contains g.strings_Contains)] [(2, [0]), (8, [1]), (9, [2])] [] [] [] [] [] [] [] []
theorem sm_R_PartsOf (g : C_R_PartsOf) : Same (SS_R_PartsOf (@R_PartsOf_ g)) (abody (E_R_PartsOf g) Tryz.f127 code_127 3 [] [.asis, .asis] g.N) := by intro args; unfold SS_R_PartsOf; split; exact .inr fun R k => (by kernel_rfl); exact .inl fun R k => rfl
theorem ok_R_PartsOf [Fuel] : Ok 127 (SS_R_PartsOf (@R_PartsOf _)) := okF_of std (.cons ok_z67z (.cons ok_z68z (.cons ok_R_baseAt (.cons ok_R_begin (.cons ok_strings_Contains .nil))))) ⟨rfl, rfl, by kernel_rfl, rfl, rfl, rfl⟩ (sm_R_PartsOf I_R_PartsOf) (cuts0 (fun _ => rfl) (by kernel_rfl)) Tryz.func127 (by kernel_rfl) (by kernel_rfl)
abbrev T_Q_Call : Type 1 := List UInt8 → {R : Type} → (Bool → Option R) → Option R
structure C_Q_Call where
 N : Nat
 R_PartsOf : T_R_PartsOf
def Q_Call_ (g : C_Q_Call) (a1 : List UInt8) {R : Type} (k0 : Bool → Option R) : Option R :=
 (g.R_PartsOf a1 (fun r2 r3 => k0 r3))
noncomputable def I_Q_Call [Fuel] : C_Q_Call := ⟨NN, @R_PartsOf _⟩
noncomputable def Q_Call [Fuel] : T_Q_Call := @Q_Call_ I_Q_Call
def SS_Q_Call (g : T_Q_Call) : Spec A := fun args => match args with | [.d (.str a1)] => fun k => g a1 (fun z0 => k (.d (.bool z0)) [.undef]) | _ => fun _ => none
noncomputable def code_80 : Code := (Tryz.f80.body).getD .skip
noncomputable def E_Q_Call (g : C_Q_Call) : Env A := mkE [(127, SS_R_PartsOf g.R_PartsOf)] [(3, [0])] [] [] [] [] [] [] [] []
theorem sm_Q_Call (g : C_Q_Call) : Same (SS_Q_Call (@Q_Call_ g)) (abody (E_Q_Call g) Tryz.f80 code_80 1 [] [.asis] g.N) := by intro args; unfold SS_Q_Call; split; exact .inr fun R k => (by kernel_rfl); exact .inl fun R k => rfl
theorem ok_Q_Call [Fuel] : Ok 80 (SS_Q_Call (@Q_Call _)) := okF_of std (.cons ok_R_PartsOf .nil) ⟨rfl, rfl, by kernel_rfl, rfl, rfl, rfl⟩ (sm_Q_Call I_Q_Call) (cuts0 (fun _ => rfl) (by kernel_rfl)) Tryz.func80 (by kernel_rfl) (by kernel_rfl)
abbrev T_z58z : Type 1 := G_Contact → {R : Type} → (Int → Option R) → Option R
structure C_z58z where
 N : Nat
 Q_Moment : T_Q_Moment
 Q_in : T_Q_in
 Q_Key : T_Q_Key
 Q_Call : T_Q_Call
def z58z_ (g : C_z58z) (a1 : G_Contact) {R : Type} (k0 : Int → Option R) : Option R :=
 (g.Q_Moment a1.f_At (fun r2 => (bif (!r2) then k0 1 else (g.Q_in a1.f_Mode 1 3 (fun r3 => (bif (!r3) then k0 4 else (g.Q_Key a1.f_Band (fun r4 => (bif (!r4) then k0 5 else (g.Q_Call a1.f_Call (fun r5 => (bif (!r5) then k0 3 else (g.Q_in a1.f_Sent 0 99999 (fun r6 => (bif (!r6) then k0 1 else (g.Q_in a1.f_Heard 0 99999 (fun r7 => (bif (!r7) then k0 1 else (bif (!(a1.f_Gave == [])) then (g.Q_Key a1.f_Gave (fun r8 => (bif (!r8) then k0 5 else (bif (!(a1.f_Got == [])) then (g.Q_Key a1.f_Got (fun r9 => (bif (!r9) then k0 5 else k0 0))) else k0 0)))) else (bif (!(a1.f_Got == [])) then (g.Q_Key a1.f_Got (fun r10 => (bif (!r10) then k0 5 else k0 0))) else k0 0))))))))))))))))))))
noncomputable def I_z58z [Fuel] : C_z58z := ⟨NN, @Q_Moment _, @Q_in _, @Q_Key _, @Q_Call _⟩
noncomputable def z58z [Fuel] : T_z58z := @z58z_ I_z58z
def SS_z58z (g : T_z58z) : Spec A := fun args => match args with | [.agg [.d (.int .i64 a1), .d (.int .i64 a2), .d (.str a3), .d (.str a4), .d (.int .i64 a5), .d (.int .i64 a6), .d (.str a7), .d (.str a8)]] => fun k => g ⟨a1, a2, a3, a4, a5, a6, a7, a8⟩ (fun z0 => k (.d (.int .i64 z0)) [.undef]) | _ => fun _ => none
noncomputable def code_31 : Code := (Tryz.f31.body).getD .skip
noncomputable def E_z58z (g : C_z58z) : Env A := mkE [(66, SS_Q_Moment g.Q_Moment), (78, SS_Q_in g.Q_in), (79, SS_Q_Key g.Q_Key), (80, SS_Q_Call g.Q_Call)] [(1, [0])] [] [] [] [] [] [] [] []
theorem sm_z58z (g : C_z58z) : Same (SS_z58z (@z58z_ g)) (abody (E_z58z g) Tryz.f31 code_31 1 [] [.asis] g.N) := by intro args; unfold SS_z58z; split; exact .inr fun R k => (by kernel_rfl); exact .inl fun R k => rfl
theorem ok_z58z [Fuel] : Ok 31 (SS_z58z (@z58z _)) := okF_of std (.cons ok_Q_Moment (.cons ok_Q_in (.cons ok_Q_Key (.cons ok_Q_Call .nil)))) ⟨rfl, rfl, by kernel_rfl, rfl, rfl, rfl⟩ (sm_z58z I_z58z) (cuts0 (fun _ => rfl) (by kernel_rfl)) Tryz.func31 (by kernel_rfl) (by kernel_rfl)
abbrev T_z46z : Type 1 := G_Deed → {R : Type} → (Int → Option R) → Option R
structure C_z46z where
 N : Nat
 z58z : T_z58z
 Q_Moment : T_Q_Moment
 Q_in : T_Q_in
 Q_Key : T_Q_Key
def z46z_ (g : C_z46z) (a1 : G_Deed) {R : Type} (k0 : Int → Option R) : Option R :=
 (g.Q_Key a1.f_Site (fun r2 => (bif (!r2) then k0 5 else (g.Q_in a1.f_No 1 1000000 (fun r3 => (bif (!r3) then k0 1 else (g.Q_Moment a1.f_At (fun r4 => (bif (!r4) then k0 1 else (g.Q_in a1.f_Kind 1 5 (fun r5 => (bif (!r5) then k0 4 else (bif (a1.f_Kind == 1) then (g.z58z a1.f_Contact (fun r6 => (bif (r6 != 0) then k0 r6 else (bif (decide (a1.f_Contact.f_At > a1.f_At)) then k0 1 else (bif (!(eq_G_Deed a1 (⟨a1.f_Site, a1.f_No, a1.f_At, a1.f_Kind, a1.f_Contact, [], [], 0⟩ : G_Deed))) then k0 3 else k0 0))))) else (bif (a1.f_Kind == 2) then (g.Q_Key a1.f_Band (fun r7 => (bif (!r7) then k0 5 else (bif (!(eq_G_Deed a1 (⟨a1.f_Site, a1.f_No, a1.f_At, a1.f_Kind, (⟨0, 0, [], [], 0, 0, [], []⟩ : G_Contact), a1.f_Band, [], 0⟩ : G_Deed))) then k0 3 else k0 0)))) else (bif (a1.f_Kind == 5) then (g.Q_Key a1.f_Of (fun r8 => (bif (!r8) then k0 5 else (g.Q_in a1.f_Other 1 1000000 (fun r9 => (bif (!r9) then k0 1 else (bif (!(eq_G_Deed a1 (⟨a1.f_Site, a1.f_No, a1.f_At, a1.f_Kind, (⟨0, 0, [], [], 0, 0, [], []⟩ : G_Contact), [], a1.f_Of, a1.f_Other⟩ : G_Deed))) then k0 3 else k0 0))))))) else (g.Q_in a1.f_Contact.f_Sent 1 99999 (fun r10 => (bif (!r10) then k0 1 else (bif (!(eq_G_Deed a1 (⟨a1.f_Site, a1.f_No, a1.f_At, a1.f_Kind, (⟨0, 0, [], [], a1.f_Contact.f_Sent, 0, [], []⟩ : G_Contact), [], [], 0⟩ : G_Deed))) then k0 3 else k0 0)))))))))))))))))))
noncomputable def I_z46z [Fuel] : C_z46z := ⟨NN, @z58z _, @Q_Moment _, @Q_in _, @Q_Key _⟩
noncomputable def z46z [Fuel] : T_z46z := @z46z_ I_z46z
def SS_z46z (g : T_z46z) : Spec A := fun args => match args with | [.agg [.d (.str a1), .d (.int .i64 a2), .d (.int .i64 a3), .d (.int .i64 a4), .d (.int .i64 a5), .d (.int .i64 a6), .d (.str a7), .d (.str a8), .d (.int .i64 a9), .d (.int .i64 a10), .d (.str a11), .d (.str a12), .d (.str a13), .d (.str a14), .d (.int .i64 a15)]] => fun k => g ⟨a1, a2, a3, a4, ⟨a5, a6, a7, a8, a9, a10, a11, a12⟩, a13, a14, a15⟩ (fun z0 => k (.d (.int .i64 z0)) [.undef]) | _ => fun _ => none
noncomputable def code_57 : Code := (Tryz.f57.body).getD .skip
noncomputable def E_z46z (g : C_z46z) : Env A := mkE [(31, SS_z58z g.z58z), (66, SS_Q_Moment g.Q_Moment), (78, SS_Q_in g.Q_in), (79, SS_Q_Key g.Q_Key)] [(1, [0]), (3, [1])] [] [] [] [] [] [] [] []
theorem sm_z46z (g : C_z46z) : Same (SS_z46z (@z46z_ g)) (abody (E_z46z g) Tryz.f57 code_57 2 [] [.asis] g.N) := by intro args; unfold SS_z46z; split; exact .inr fun R k => (by kernel_rfl); exact .inl fun R k => rfl
theorem ok_z46z [Fuel] : Ok 57 (SS_z46z (@z46z _)) := okF_of std (.cons ok_z58z (.cons ok_Q_Moment (.cons ok_Q_in (.cons ok_Q_Key .nil)))) ⟨rfl, rfl, by kernel_rfl, rfl, rfl, rfl⟩ (sm_z46z I_z46z) (cuts0 (fun _ => rfl) (by kernel_rfl)) Tryz.func57 (by kernel_rfl) (by kernel_rfl)
end Go.Am
