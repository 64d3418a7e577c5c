/- The functions of the program as Lean functions, each shown to be what the code computes, part 1. No condition: lemmas for the claim. -/
import Derived.Test.YtnlblmnoiepeaaaGreatDoorF0
import Derived.Test.YtnlblmnoiepeaaaGreatDoorFSh
set_option linter.unusedVariables false
set_option maxRecDepth 100000
namespace Go.Am
open Go Go.Proofs
abbrev T_M_Below : Type 1 := Int → Int → {R : Type} → (Int → Option R) → Option R
def M_Below_ (g : Nat) (a1 a2 : Int) {R : Type} (k0 : Int → Option R) : Option R :=
 (bif (decide (a2 < 1)) then k0 0 else (bif (a2 == 0) then none else (bif (decide ((Int.tmod a1 a2) < 0)) then k0 (w64 ((Int.tmod a1 a2) + a2)) else k0 (Int.tmod a1 a2))))
noncomputable def M_Below [Fuel] : T_M_Below := @M_Below_ NN
def SS_M_Below (g : T_M_Below) : Spec A := fun args => match args with | [.d (.int .i64 a1), .d (.int .i64 a2)] => fun k => g a1 a2 (fun z0 => k (.d (.int .i64 z0)) [.undef, .undef]) | _ => fun _ => none
noncomputable def code_64 : Code := (Tryz.f64.body).getD .skip
noncomputable def E_M_Below (g : Nat) : Env A := mkE [] [] [] [] [] [] [] [] [] []
theorem sm_M_Below (g : Nat) : Same (SS_M_Below (@M_Below_ g)) (abody (E_M_Below g) Tryz.f64 code_64 0 [] [.asis] g) := by intro args; unfold SS_M_Below; split; exact .inr fun R k => (by kernel_rfl); exact .inl fun R k => rfl
theorem ok_M_Below [Fuel] : Ok 64 (SS_M_Below (@M_Below _)) := okF_of std .nil ⟨rfl, rfl, by kernel_rfl, rfl, rfl, rfl⟩ (sm_M_Below NN) (cuts0 (fun _ => rfl) (by kernel_rfl)) Tryz.func64 (by kernel_rfl) (by kernel_rfl)
abbrev T_z59z : Type 1 := G_Stream → Int → {R : Type} → (Int → G_Stream → Option R) → Option R
structure C_z59z where
 N : Nat
 M_Below : T_M_Below
def z59z_ (g : C_z59z) (a1 : G_Stream) (a2 : Int) {R : Type} (k0 : Int → G_Stream → Option R) : Option R :=
 (bif ((a1.f_L.length : Int) == 0) then (g.M_Below (w64 ((w64 (a1.f_at + 1)) * 7919)) a2 (fun r3 => k0 r3 (⟨a1.f_L, (w64 (a1.f_at + 1))⟩ : G_Stream))) else (bif ((a1.f_L.length : Int) == 0) then none else (bif ((a1.f_L.length : Int) == 0) then none else (get_ a1.f_L (Int.tmod (w64 ((w64 (a1.f_at + 1)) - 1)) (a1.f_L.length : Int)) fun x4 => (g.M_Below x4 1073741824 (fun r5 => (g.M_Below (w64 (r5 + (w64 ((w64 (Int.tdiv (w64 ((w64 (a1.f_at + 1)) - 1)) (a1.f_L.length : Int))) * (w64 (7919 + (Int.tmod (w64 ((w64 (a1.f_at + 1)) - 1)) (a1.f_L.length : Int)))))))) a2 (fun r6 => k0 r6 (⟨a1.f_L, (w64 (a1.f_at + 1))⟩ : G_Stream)))))))))
noncomputable def I_z59z [Fuel] : C_z59z := ⟨NN, @M_Below _⟩
noncomputable def z59z [Fuel] : T_z59z := @z59z_ I_z59z
def SS_z59z (g : T_z59z) : Spec A := fun args => match args with | [.box [.d (.sl 3 a1), .d (.int .i64 a2)], .d (.int .i64 a3)] => fun k => g ⟨a1, a2⟩ a3 (fun z0 z1 => k (.d (.int .i64 z0)) [.box [.d (.sl 3 z1.f_L), .d (.int .i64 z1.f_at)], .undef]) | _ => fun _ => none
noncomputable def code_28 : Code := (Tryz.f28.body).getD .skip
noncomputable def E_z59z (g : C_z59z) : Env A := mkE [(64, SS_M_Below g.M_Below)] [] [] [] [] [] [] [] [] [0]
theorem sm_z59z (g : C_z59z) : Same (SS_z59z (@z59z_ g)) (abody (E_z59z g) Tryz.f28 code_28 1 [0] [.asis] g.N) := by intro args; unfold SS_z59z; split; exact .inr fun R k => (by kernel_rfl); exact .inl fun R k => rfl
theorem ok_z59z [Fuel] : Ok 28 (SS_z59z (@z59z _)) := okF_of std (.cons ok_M_Below .nil) ⟨rfl, rfl, by kernel_rfl, rfl, rfl, rfl⟩ (sm_z59z I_z59z) (cuts0 (fun _ => rfl) (by kernel_rfl)) Tryz.func28 (by kernel_rfl) (by kernel_rfl)
abbrev T_z57z : Type 1 := G_Stream → Int → {R : Type} → (Bool → G_Stream → Option R) → Option R
structure C_z57z where
 N : Nat
 z59z : T_z59z
def z57z_ (g : C_z57z) (a1 : G_Stream) (a2 : Int) {R : Type} (k0 : Bool → G_Stream → Option R) : Option R :=
 (g.z59z a1 a2 (fun r3 r4 => k0 (r3 == 0) r4))
noncomputable def I_z57z [Fuel] : C_z57z := ⟨NN, @z59z _⟩
noncomputable def z57z [Fuel] : T_z57z := @z57z_ I_z57z
def SS_z57z (g : T_z57z) : Spec A := fun args => match args with | [.box [.d (.sl 3 a1), .d (.int .i64 a2)], .d (.int .i64 a3)] => fun k => g ⟨a1, a2⟩ a3 (fun z0 z1 => k (.d (.bool z0)) [.box [.d (.sl 3 z1.f_L), .d (.int .i64 z1.f_at)], .undef]) | _ => fun _ => none
noncomputable def code_25 : Code := (Tryz.f25.body).getD .skip
noncomputable def E_z57z (g : C_z57z) : Env A := mkE [(28, SS_z59z g.z59z)] [] [] [] [] [] [] [] [] [0]
theorem sm_z57z (g : C_z57z) : Same (SS_z57z (@z57z_ g)) (abody (E_z57z g) Tryz.f25 code_25 1 [0] [.asis] g.N) := by intro args; unfold SS_z57z; split; exact .inr fun R k => (by kernel_rfl); exact .inl fun R k => rfl
theorem ok_z57z [Fuel] : Ok 25 (SS_z57z (@z57z _)) := okF_of std (.cons ok_z59z .nil) ⟨rfl, rfl, by kernel_rfl, rfl, rfl, rfl⟩ (sm_z57z I_z57z) (cuts0 (fun _ => rfl) (by kernel_rfl)) Tryz.func25 (by kernel_rfl) (by kernel_rfl)
abbrev T_z32z : Type 1 := G_Stream → {R : Type} → (List G_Band → G_Stream → Option R) → Option R
structure C_z32z where
 N : Nat
 z57z : T_z57z
def z32z_L3 (g : C_z32z) : Nat → Int → Int → G_Stream → List G_Band → List G_Band → {R : Type} → (G_Stream → List G_Band → Option R) → Option R
 | 0, _, _, _, _, _, _, _ => none
 | n + 1, v2, v3, v4, v5, v6, _, e0 => (bif (decide (v3 < v2)) then (inr v5 v3 (at_ v5 v3 fun x10 => (g.z57z v4 8 (fun r11 r12 => (bif (!r11) then (bif (decide ((v6.length + [x10].length) * 32 ≤ roomBytes')) then z32z_L3 g n v2 (w64 (v3 + 1)) r12 v5 (v6 ++ [x10]) e0 else none) else z32z_L3 g n v2 (w64 (v3 + 1)) r12 v5 v6 e0))))) else e0 v4 v6)
def z32z_ (g : C_z32z) (a1 : G_Stream) {R : Type} (k0 : List G_Band → G_Stream → Option R) : Option R :=
 (z32z_L3 g g.N ([(⟨[98, 49, 54, 48], 1800000, 2000000⟩ : G_Band), (⟨[98, 52, 48], 7000000, 7300000⟩ : G_Band), (⟨[98, 51, 48], 7300000, 10150000⟩ : G_Band), (⟨[98, 50, 48], 14000000, 14350000⟩ : G_Band)].length : Int) 0 a1 [(⟨[98, 49, 54, 48], 1800000, 2000000⟩ : G_Band), (⟨[98, 52, 48], 7000000, 7300000⟩ : G_Band), (⟨[98, 51, 48], 7300000, 10150000⟩ : G_Band), (⟨[98, 50, 48], 14000000, 14350000⟩ : G_Band)] [] (fun e13 e14 => k0 e14 e13))
noncomputable def I_z32z [Fuel] : C_z32z := ⟨NN, @z57z _⟩
noncomputable def z32z [Fuel] : T_z32z := @z32z_ I_z32z
def SS_z32z (g : T_z32z) : Spec A := fun args => match args with | [.box [.d (.sl 3 a1), .d (.int .i64 a2)]] => fun k => g ⟨a1, a2⟩ (fun z0 z1 => k (.arr 62 z0) [.box [.d (.sl 3 z1.f_L), .d (.int .i64 z1.f_at)]]) | _ => fun _ => none
def sh_z32z_L3 : SSt := mkSh 25 6 [(0, .ptr 0 0), (3, .own 62 2), (10, .own 62 1), (11, .int .i64), (12, .int .i64)] [(0, .box [.sl 3, .int .i64]), (1, .row 62), (2, .row 62)]
def LP_z32z_L3 (g : C_z32z) (n : Nat) : LPT A := fun ps => match ps with | [.d (.int .i64 p1), .d (.int .i64 p2), .d (.sl 3 p3), .d (.int .i64 p4), .d (.sl 62 p5), .d (.sl 62 p6)] => fun K => z32z_L3 g n p1 p2 ⟨p3, p4⟩ p5 p6 (fun z0 z1 => K (.exit 0) (mkSt 25 6 [(0, .ptr 0 0), (3, .own 62 2)] [(0, some (.box [.d (.sl 3 z0.f_L), .d (.int .i64 z0.f_at)])), (2, some (.row 62 z1))])) | _ => fun _ => none
noncomputable def code_5 : Code := (Tryz.f5.body).getD .skip
noncomputable def E_z32z (g : C_z32z) : Env A := mkE [(25, SS_z57z g.z57z)] [(5, [3]), (10, [1]), (21, [4]), (22, [5])] [(3, ⟨[0, 3, 10, 11, 12], [(3, 62, 2)], [0, 1], [], [], [], []⟩)] [(3, ⟨[0, 3], [], [0, 2], [], [], [], []⟩)] [(3, pieceOf sh_z32z_L3 (LP_z32z_L3 g g.N))] [] [] [] [] [0]
theorem ct_z32z [Fuel] : NatTab (E_z32z I_z32z).C := ct_of (P := Tryz.prog) (T := T) (.cons ok_z57z .nil) (by kernel_rfl)
noncomputable def cb_z32z_L3 : Code := sub [1, 1, 0, 1, 0, 0] code_5
theorem s_z32z_L3 (g : C_z32z) (n : Nat) : StepOk (E_z32z g) g.N cb_z32z_L3 sh_z32z_L3 (LP_z32z_L3 g) n := by intro ps; unfold LP_z32z_L3; split; exact .inr fun R K => (by kernel_rfl); exact .inl fun R K => rfl
theorem lf_z32z_L3 [Fuel] : LoopFine (E_z32z I_z32z) NN cb_z32z_L3 := fine_loop sh_z32z_L3 (LP_z32z_L3 I_z32z) (by kernel_rfl) ct_z32z (cuts0 (fun _ => rfl) (by kernel_rfl)) (fun ps R K => by unfold LP_z32z_L3; split <;> (try unfold z32z_L3) <;> rfl) (s_z32z_L3 I_z32z)
theorem sm_z32z (g : C_z32z) : Same (SS_z32z (@z32z_ g)) (abody (E_z32z g) Tryz.f5 code_5 6 [0] [.arr 62] g.N) := by intro args; unfold SS_z32z; split; exact .inr fun R k => (by kernel_rfl); exact .inl fun R k => rfl
theorem ok_z32z [Fuel] : Ok 5 (SS_z32z (@z32z _)) := okF_of std (.cons ok_z57z .nil) ⟨rfl, rfl, by kernel_rfl, rfl, rfl, rfl⟩ (sm_z32z I_z32z) (cutsL (fun _ => rfl) (.cons lf_z32z_L3 .nil) (by kernel_rfl)) Tryz.func5 (by kernel_rfl) (by kernel_rfl)
abbrev T_z70z : Type 1 := G_Stream → Int → Int → {R : Type} → (Int → G_Stream → Option R) → Option R
structure C_z70z where
 N : Nat
 z59z : T_z59z
def z70z_ (g : C_z70z) (a1 : G_Stream) (a2 a3 : Int) {R : Type} (k0 : Int → G_Stream → Option R) : Option R :=
 (bif (decide (a3 < a2)) then k0 a2 a1 else (g.z59z a1 (w64 ((w64 (a3 - a2)) + 1)) (fun r4 r5 => k0 (w64 (a2 + r4)) r5)))
noncomputable def I_z70z [Fuel] : C_z70z := ⟨NN, @z59z _⟩
noncomputable def z70z [Fuel] : T_z70z := @z70z_ I_z70z
def SS_z70z (g : T_z70z) : Spec A := fun args => match args with | [.box [.d (.sl 3 a1), .d (.int .i64 a2)], .d (.int .i64 a3), .d (.int .i64 a4)] => fun k => g ⟨a1, a2⟩ a3 a4 (fun z0 z1 => k (.d (.int .i64 z0)) [.box [.d (.sl 3 z1.f_L), .d (.int .i64 z1.f_at)], .undef, .undef]) | _ => fun _ => none
noncomputable def code_7 : Code := (Tryz.f7.body).getD .skip
noncomputable def E_z70z (g : C_z70z) : Env A := mkE [(28, SS_z59z g.z59z)] [] [] [] [] [] [] [] [] [0]
theorem sm_z70z (g : C_z70z) : Same (SS_z70z (@z70z_ g)) (abody (E_z70z g) Tryz.f7 code_7 1 [0] [.asis] g.N) := by intro args; unfold SS_z70z; split; exact .inr fun R k => (by kernel_rfl); exact .inl fun R k => rfl
theorem ok_z70z [Fuel] : Ok 7 (SS_z70z (@z70z _)) := okF_of std (.cons ok_z59z .nil) ⟨rfl, rfl, by kernel_rfl, rfl, rfl, rfl⟩ (sm_z70z I_z70z) (cuts0 (fun _ => rfl) (by kernel_rfl)) Tryz.func7 (by kernel_rfl) (by kernel_rfl)
abbrev T_z60z : Type 1 := G_Stream → List Int → {R : Type} → (Int → G_Stream → Option R) → Option R
structure C_z60z where
 N : Nat
 z59z : T_z59z
def z60z_ (g : C_z60z) (a1 : G_Stream) (a2 : List Int) {R : Type} (k0 : Int → G_Stream → Option R) : Option R :=
 (g.z59z a1 (a2.length : Int) (fun r3 r4 => (get_ a2 r3 fun x5 => k0 x5 r4)))
noncomputable def I_z60z [Fuel] : C_z60z := ⟨NN, @z59z _⟩
noncomputable def z60z [Fuel] : T_z60z := @z60z_ I_z60z
def SS_z60z (g : T_z60z) : Spec A := fun args => match args with | [.box [.d (.sl 3 a1), .d (.int .i64 a2)], .d (.sl 3 a3)] => fun k => g ⟨a1, a2⟩ a3 (fun z0 z1 => k (.d (.int .i64 z0)) [.box [.d (.sl 3 z1.f_L), .d (.int .i64 z1.f_at)], .undef]) | _ => fun _ => none
noncomputable def code_55 : Code := (Tryz.f55.body).getD .skip
noncomputable def E_z60z (g : C_z60z) : Env A := mkE [(28, SS_z59z g.z59z)] [] [] [] [] [] [] [] [] [0]
theorem sm_z60z (g : C_z60z) : Same (SS_z60z (@z60z_ g)) (abody (E_z60z g) Tryz.f55 code_55 1 [0] [.asis] g.N) := by intro args; unfold SS_z60z; split; exact .inr fun R k => (by kernel_rfl); exact .inl fun R k => rfl
theorem ok_z60z [Fuel] : Ok 55 (SS_z60z (@z60z _)) := okF_of std (.cons ok_z59z .nil) ⟨rfl, rfl, by kernel_rfl, rfl, rfl, rfl⟩ (sm_z60z I_z60z) (cuts0 (fun _ => rfl) (by kernel_rfl)) Tryz.func55 (by kernel_rfl) (by kernel_rfl)
abbrev T_z42z : Type 1 := G_Stream → List (List UInt8) → {R : Type} → (List UInt8 → G_Stream → Option R) → Option R
structure C_z42z where
 N : Nat
 z59z : T_z59z
def z42z_ (g : C_z42z) (a1 : G_Stream) (a2 : List (List UInt8)) {R : Type} (k0 : List UInt8 → G_Stream → Option R) : Option R :=
 (g.z59z a1 (a2.length : Int) (fun r3 r4 => (get_ a2 r3 fun x5 => k0 x5 r4)))
noncomputable def I_z42z [Fuel] : C_z42z := ⟨NN, @z59z _⟩
noncomputable def z42z [Fuel] : T_z42z := @z42z_ I_z42z
def SS_z42z (g : T_z42z) : Spec A := fun args => match args with | [.box [.d (.sl 3 a1), .d (.int .i64 a2)], .d (.sl 9 a3)] => fun k => g ⟨a1, a2⟩ a3 (fun z0 z1 => k (.d (.str z0)) [.box [.d (.sl 3 z1.f_L), .d (.int .i64 z1.f_at)], .undef]) | _ => fun _ => none
noncomputable def code_57 : Code := (Tryz.f57.body).getD .skip
noncomputable def E_z42z (g : C_z42z) : Env A := mkE [(28, SS_z59z g.z59z)] [] [] [] [] [] [] [] [] [0]
theorem sm_z42z (g : C_z42z) : Same (SS_z42z (@z42z_ g)) (abody (E_z42z g) Tryz.f57 code_57 1 [0] [.asis] g.N) := by intro args; unfold SS_z42z; split; exact .inr fun R k => (by kernel_rfl); exact .inl fun R k => rfl
theorem ok_z42z [Fuel] : Ok 57 (SS_z42z (@z42z _)) := okF_of std (.cons ok_z59z .nil) ⟨rfl, rfl, by kernel_rfl, rfl, rfl, rfl⟩ (sm_z42z I_z42z) (cuts0 (fun _ => rfl) (by kernel_rfl)) Tryz.func57 (by kernel_rfl) (by kernel_rfl)
abbrev T_z72z : Type 1 := G_Stream → {R : Type} → (List UInt8 → G_Stream → Option R) → Option R
structure C_z72z where
 N : Nat
 z57z : T_z57z
 z42z : T_z42z
def z72z_ (g : C_z72z) (a1 : G_Stream) {R : Type} (k0 : List UInt8 → G_Stream → Option R) : Option R :=
 (g.z57z a1 60 (fun r2 r3 => (bif r2 then (g.z42z r3 [[], [107, 49], [75, 49, 65, 66], [107, 49, 97, 98, 47], [49, 97], [107, 49, 97, 98, 47, 109, 109, 47, 112]] (fun r4 r5 => k0 r4 r5)) else (g.z42z r3 [[107, 49, 97, 98], [107, 49, 97, 97], [107, 49, 97, 98, 47, 52], [111, 104, 50, 97, 98, 99], [111, 104, 50, 97, 98, 100], [119, 49, 97, 119], [110, 49, 109, 109], [103, 51, 120, 121, 122, 47, 112]] (fun r6 r7 => k0 r6 r7)))))
noncomputable def I_z72z [Fuel] : C_z72z := ⟨NN, @z57z _, @z42z _⟩
noncomputable def z72z [Fuel] : T_z72z := @z72z_ I_z72z
def SS_z72z (g : T_z72z) : Spec A := fun args => match args with | [.box [.d (.sl 3 a1), .d (.int .i64 a2)]] => fun k => g ⟨a1, a2⟩ (fun z0 z1 => k (.d (.str z0)) [.box [.d (.sl 3 z1.f_L), .d (.int .i64 z1.f_at)]]) | _ => fun _ => none
noncomputable def code_56 : Code := (Tryz.f56.body).getD .skip
noncomputable def E_z72z (g : C_z72z) : Env A := mkE [(25, SS_z57z g.z57z), (57, SS_z42z g.z42z)] [(6, [1]), (9, [2])] [] [] [] [] [] [] [] [0]
theorem sm_z72z (g : C_z72z) : Same (SS_z72z (@z72z_ g)) (abody (E_z72z g) Tryz.f56 code_56 3 [0] [.asis] g.N) := by intro args; unfold SS_z72z; split; exact .inr fun R k => (by kernel_rfl); exact .inl fun R k => rfl
theorem ok_z72z [Fuel] : Ok 56 (SS_z72z (@z72z _)) := okF_of std (.cons ok_z57z (.cons ok_z42z .nil)) ⟨rfl, rfl, by kernel_rfl, rfl, rfl, rfl⟩ (sm_z72z I_z72z) (cuts0 (fun _ => rfl) (by kernel_rfl)) Tryz.func56 (by kernel_rfl) (by kernel_rfl)
abbrev T_Stream_Odd : Type 1 := G_Stream → Int → Int → {R : Type} → (Int → G_Stream → Option R) → Option R
structure C_Stream_Odd where
 N : Nat
 z70z : T_z70z
 z57z : T_z57z
 z60z : T_z60z
def Stream_Odd_ (g : C_Stream_Odd) (a1 : G_Stream) (a2 a3 : Int) {R : Type} (k0 : Int → G_Stream → Option R) : Option R :=
 (g.z57z a1 12 (fun r4 r5 => (bif r4 then (g.z60z r5 [(w64 (a2 - 1)), (w64 (a3 + 1)), a2, a3, (-1099511627776), 1099511627776] (fun r6 r7 => k0 r6 r7)) else (g.z70z r5 a2 a3 (fun r8 r9 => k0 r8 r9)))))
noncomputable def I_Stream_Odd [Fuel] : C_Stream_Odd := ⟨NN, @z70z _, @z57z _, @z60z _⟩
noncomputable def Stream_Odd [Fuel] : T_Stream_Odd := @Stream_Odd_ I_Stream_Odd
def SS_Stream_Odd (g : T_Stream_Odd) : Spec A := fun args => match args with | [.box [.d (.sl 3 a1), .d (.int .i64 a2)], .d (.int .i64 a3), .d (.int .i64 a4)] => fun k => g ⟨a1, a2⟩ a3 a4 (fun z0 z1 => k (.d (.int .i64 z0)) [.box [.d (.sl 3 z1.f_L), .d (.int .i64 z1.f_at)], .undef, .undef]) | _ => fun _ => none
noncomputable def code_58 : Code := (Tryz.f58.body).getD .skip
noncomputable def E_Stream_Odd (g : C_Stream_Odd) : Env A := mkE [(7, SS_z70z g.z70z), (25, SS_z57z g.z57z), (55, SS_z60z g.z60z)] [(16, [1])] [] [] [] [] [] [] [] [0]
theorem sm_Stream_Odd (g : C_Stream_Odd) : Same (SS_Stream_Odd (@Stream_Odd_ g)) (abody (E_Stream_Odd g) Tryz.f58 code_58 2 [0] [.asis] g.N) := by intro args; unfold SS_Stream_Odd; split; exact .inr fun R k => (by kernel_rfl); exact .inl fun R k => rfl
theorem ok_Stream_Odd [Fuel] : Ok 58 (SS_Stream_Odd (@Stream_Odd _)) := okF_of std (.cons ok_z70z (.cons ok_z57z (.cons ok_z60z .nil))) ⟨rfl, rfl, by kernel_rfl, rfl, rfl, rfl⟩ (sm_Stream_Odd I_Stream_Odd) (cuts0 (fun _ => rfl) (by kernel_rfl)) Tryz.func58 (by kernel_rfl) (by kernel_rfl)
abbrev T_z76z : Type 1 := Int → {R : Type} → (Bool → Option R) → Option R
def z76z_ (g : Nat) (a1 : Int) {R : Type} (k0 : Bool → Option R) : Option R :=
 k0 (a1 != a1)
noncomputable def z76z [Fuel] : T_z76z := @z76z_ NN
def SS_z76z (g : T_z76z) : Spec A := fun args => match args with | [.d (.int .i64 a1)] => fun k => g a1 (fun z0 => k (.d (.bool z0)) [.undef]) | _ => fun _ => none
noncomputable def code_163 : Code := (Tryz.f163.body).getD .skip
noncomputable def E_z76z (g : Nat) : Env A := mkE [] [] [] [] [] [] [] [] [] []
theorem sm_z76z (g : Nat) : Same (SS_z76z (@z76z_ g)) (abody (E_z76z g) Tryz.f163 code_163 0 [] [.asis] g) := by intro args; unfold SS_z76z; split; exact .inr fun R k => (by kernel_rfl); exact .inl fun R k => rfl
theorem ok_z76z [Fuel] : Ok 163 (SS_z76z (@z76z _)) := okF_of std .nil ⟨rfl, rfl, by kernel_rfl, rfl, rfl, rfl⟩ (sm_z76z NN) (cuts0 (fun _ => rfl) (by kernel_rfl)) Tryz.func163 (by kernel_rfl) (by kernel_rfl)
noncomputable def Ed_z76z (g : Nat) : Env A := mkED [] [] [] [] [] [] [] [] [] []
theorem smd_z76z (g : Nat) : Same (SS_z76z (@z76z_ g)) (abody (Ed_z76z g) Tryz.f163 code_163 0 [] [.asis] g) := by intro args; unfold SS_z76z; split; exact .inr fun R k => (by kernel_rfl); exact .inl fun R k => rfl
theorem okd_z76z [Fuel] : OkD 163 (SS_z76z (@z76z _)) := okF_of stdD .nil ⟨rfl, rfl, by kernel_rfl, rfl, rfl, rfl⟩ (smd_z76z NN) (cuts0 (fun _ => rfl) (by kernel_rfl)) Tryz.func163 (by kernel_rfl) (by kernel_rfl)
abbrev T_z31z : Type 1 := Int → Int → {R : Type} → (Int → Option R) → Option R
structure C_z31z where
 N : Nat
 z76z : T_z76z
def z31z_ (g : C_z31z) (a1 a2 : Int) {R : Type} (k0 : Int → Option R) : Option R :=
 (g.z76z a1 (fun r3 => (g.z76z a2 (fun r4 => (bif r3 then (bif r4 then k0 0 else k0 (-1)) else (bif r4 then k0 1 else (bif (decide (a1 < a2)) then k0 (-1) else (bif (decide (a1 > a2)) then k0 1 else k0 0))))))))
noncomputable def I_z31z [Fuel] : C_z31z := ⟨NN, @z76z _⟩
noncomputable def z31z [Fuel] : T_z31z := @z31z_ I_z31z
def SS_z31z (g : T_z31z) : Spec A := fun args => match args with | [.d (.int .i64 a1), .d (.int .i64 a2)] => fun k => g a1 a2 (fun z0 => k (.d (.int .i64 z0)) [.undef, .undef]) | _ => fun _ => none
noncomputable def code_122 : Code := (Tryz.f122.body).getD .skip
noncomputable def E_z31z (g : C_z31z) : Env A := mkE [(163, SS_z76z g.z76z)] [] [] [] [] [] [] [] [] []
theorem sm_z31z (g : C_z31z) : Same (SS_z31z (@z31z_ g)) (abody (E_z31z g) Tryz.f122 code_122 0 [] [.asis] g.N) := by intro args; unfold SS_z31z; split; exact .inr fun R k => (by kernel_rfl); exact .inl fun R k => rfl
theorem ok_z31z [Fuel] : Ok 122 (SS_z31z (@z31z _)) := okF_of std (.cons ok_z76z .nil) ⟨rfl, rfl, by kernel_rfl, rfl, rfl, rfl⟩ (sm_z31z I_z31z) (cuts0 (fun _ => rfl) (by kernel_rfl)) Tryz.func122 (by kernel_rfl) (by kernel_rfl)
noncomputable def Ed_z31z (g : C_z31z) : Env A := mkED [(163, SS_z76z g.z76z)] [] [] [] [] [] [] [] [] []
theorem smd_z31z (g : C_z31z) : Same (SS_z31z (@z31z_ g)) (abody (Ed_z31z g) Tryz.f122 code_122 0 [] [.asis] g.N) := by intro args; unfold SS_z31z; split; exact .inr fun R k => (by kernel_rfl); exact .inl fun R k => rfl
theorem okd_z31z [Fuel] : OkD 122 (SS_z31z (@z31z _)) := okF_of stdD (.cons okd_z76z .nil) ⟨rfl, rfl, by kernel_rfl, rfl, rfl, rfl⟩ (smd_z31z I_z31z) (cuts0 (fun _ => rfl) (by kernel_rfl)) Tryz.func122 (by kernel_rfl) (by kernel_rfl)
abbrev T_z35z : Type 1 := List Int → List Int → {R : Type} → (Int → Option R) → Option R
structure C_z35z where
 N : Nat
 z31z : T_z31z
def z35z_L2 (g : C_z35z) : Nat → List Int → List Int → List Int → Int → Int → {R : Type} → (List Int → List Int → Int → Option R) → (List Int → List Int → Option R) → Option R
 | 0, _, _, _, _, _, _, _, _ => none
 | n + 1, v3, v4, v5, v6, v7, _, e0, e1 => (bif (decide (v7 < v6)) then (get_ v5 v7 fun x11 => (bif (decide (v7 ≥ (v4.length : Int))) then e0 v3 v4 1 else (get_ v4 v7 fun x12 => (g.z31z x11 x12 (fun r13 => (bif (r13 != 0) then e0 v3 v4 r13 else z35z_L2 g n v3 v4 v5 v6 (w64 (v7 + 1)) e0 e1)))))) else e1 v3 v4)
def z35z_ (g : C_z35z) (a1 a2 : List Int) {R : Type} (k0 : Int → Option R) : Option R :=
 (z35z_L2 g g.N a1 a2 a1 (a1.length : Int) 0 (fun e14 e15 e16 => k0 e16) (fun e17 e18 => (bif (decide ((e17.length : Int) < (e18.length : Int))) then k0 (-1) else k0 0)))
noncomputable def I_z35z [Fuel] : C_z35z := ⟨NN, @z31z _⟩
noncomputable def z35z [Fuel] : T_z35z := @z35z_ I_z35z
def SS_z35z (g : T_z35z) : Spec A := fun args => match args with | [.d (.sl 3 a1), .d (.sl 3 a2)] => fun k => g a1 a2 (fun z0 => k (.d (.int .i64 z0)) [.undef, .undef]) | _ => fun _ => none
def sh_z35z_L2 : SSt := mkSh 36 0 [(0, .sl 3), (1, .sl 3), (9, .sl 3), (10, .int .i64), (11, .int .i64)] []
def LP_z35z_L2 (g : C_z35z) (n : Nat) : LPT A := fun ps => match ps with | [.d (.sl 3 p1), .d (.sl 3 p2), .d (.sl 3 p3), .d (.int .i64 p4), .d (.int .i64 p5)] => fun K => z35z_L2 g n p1 p2 p3 p4 p5 (fun z0 z1 z2 => K .ret (mkSt 36 0 [(0, .d (.sl 3 z0)), (1, .d (.sl 3 z1)), (4, .d (.int .i64 z2))] [])) (fun z0 z1 => K (.exit 0) (mkSt 36 0 [(0, .d (.sl 3 z0)), (1, .d (.sl 3 z1))] [])) | _ => fun _ => none
noncomputable def code_111 : Code := (Tryz.f111.body).getD .skip
noncomputable def E_z35z (g : C_z35z) : Env A := mkE [(122, SS_z31z g.z31z)] [] [(2, ⟨[0, 1, 9, 10, 11], [], [], [], [], [], []⟩)] [(2, ⟨[0, 1, 4], [], [], [], [], [], []⟩)] [(2, pieceOf sh_z35z_L2 (LP_z35z_L2 g g.N))] [] [] [] [] []
theorem ct_z35z [Fuel] : NatTab (E_z35z I_z35z).C := ct_of (P := Tryz.prog) (T := T) (.cons ok_z31z .nil) (by kernel_rfl)
noncomputable def cb_z35z_L2 : Code := sub [1, 0, 1, 0, 0] code_111
theorem s_z35z_L2 (g : C_z35z) (n : Nat) : StepOk (E_z35z g) g.N cb_z35z_L2 sh_z35z_L2 (LP_z35z_L2 g) n := by intro ps; unfold LP_z35z_L2; split; exact .inr fun R K => (by kernel_rfl); exact .inl fun R K => rfl
theorem lf_z35z_L2 [Fuel] : LoopFine (E_z35z I_z35z) NN cb_z35z_L2 := fine_loop sh_z35z_L2 (LP_z35z_L2 I_z35z) (by kernel_rfl) ct_z35z (cuts0 (fun _ => rfl) (by kernel_rfl)) (fun ps R K => by unfold LP_z35z_L2; split <;> (try unfold z35z_L2) <;> rfl) (s_z35z_L2 I_z35z)
theorem sm_z35z (g : C_z35z) : Same (SS_z35z (@z35z_ g)) (abody (E_z35z g) Tryz.f111 code_111 0 [] [.asis] g.N) := by intro args; unfold SS_z35z; split; exact .inr fun R k => (by kernel_rfl); exact .inl fun R k => rfl
theorem ok_z35z [Fuel] : Ok 111 (SS_z35z (@z35z _)) := okF_of std (.cons ok_z31z .nil) ⟨rfl, rfl, by kernel_rfl, rfl, rfl, rfl⟩ (sm_z35z I_z35z) (cutsL (fun _ => rfl) (.cons lf_z35z_L2 .nil) (by kernel_rfl)) Tryz.func111 (by kernel_rfl) (by kernel_rfl)
abbrev T_z87z : Type 1 := List UInt8 → {R : Type} → (Bool → Option R) → Option R
def z87z_ (g : Nat) (a1 : List UInt8) {R : Type} (k0 : Bool → Option R) : Option R :=
 k0 (!(a1 == a1))
noncomputable def z87z [Fuel] : T_z87z := @z87z_ NN
def SS_z87z (g : T_z87z) : Spec A := fun args => match args with | [.d (.str a1)] => fun k => g a1 (fun z0 => k (.d (.bool z0)) [.undef]) | _ => fun _ => none
noncomputable def code_147 : Code := (Tryz.f147.body).getD .skip
noncomputable def E_z87z (g : Nat) : Env A := mkE [] [] [] [] [] [] [] [] [] []
theorem sm_z87z (g : Nat) : Same (SS_z87z (@z87z_ g)) (abody (E_z87z g) Tryz.f147 code_147 0 [] [.asis] g) := by intro args; unfold SS_z87z; split; exact .inr fun R k => (by kernel_rfl); exact .inl fun R k => rfl
theorem ok_z87z [Fuel] : Ok 147 (SS_z87z (@z87z _)) := okF_of std .nil ⟨rfl, rfl, by kernel_rfl, rfl, rfl, rfl⟩ (sm_z87z NN) (cuts0 (fun _ => rfl) (by kernel_rfl)) Tryz.func147 (by kernel_rfl) (by kernel_rfl)
abbrev T_z63z : Type 1 := List UInt8 → List UInt8 → {R : Type} → (Int → Option R) → Option R
structure C_z63z where
 N : Nat
 z87z : T_z87z
def z63z_ (g : C_z63z) (a1 a2 : List UInt8) {R : Type} (k0 : Int → Option R) : Option R :=
 (g.z87z a1 (fun r3 => (g.z87z a2 (fun r4 => (bif r3 then (bif r4 then k0 0 else k0 (-1)) else (bif r4 then k0 1 else (bif (Op.bytesLess a1 a2) then k0 (-1) else (bif (!(Op.bytesLess a1 a2 || a1 == a2)) then k0 1 else k0 0))))))))
noncomputable def I_z63z [Fuel] : C_z63z := ⟨NN, @z87z _⟩
noncomputable def z63z [Fuel] : T_z63z := @z63z_ I_z63z
def SS_z63z (g : T_z63z) : Spec A := fun args => match args with | [.d (.str a1), .d (.str a2)] => fun k => g a1 a2 (fun z0 => k (.d (.int .i64 z0)) [.undef, .undef]) | _ => fun _ => none
noncomputable def code_154 : Code := (Tryz.f154.body).getD .skip
noncomputable def E_z63z (g : C_z63z) : Env A := mkE [(147, SS_z87z g.z87z)] [] [] [] [] [] [] [] [] []
theorem sm_z63z (g : C_z63z) : Same (SS_z63z (@z63z_ g)) (abody (E_z63z g) Tryz.f154 code_154 0 [] [.asis] g.N) := by intro args; unfold SS_z63z; split; exact .inr fun R k => (by kernel_rfl); exact .inl fun R k => rfl
theorem ok_z63z [Fuel] : Ok 154 (SS_z63z (@z63z _)) := okF_of std (.cons ok_z87z .nil) ⟨rfl, rfl, by kernel_rfl, rfl, rfl, rfl⟩ (sm_z63z I_z63z) (cuts0 (fun _ => rfl) (by kernel_rfl)) Tryz.func154 (by kernel_rfl) (by kernel_rfl)
abbrev T_z27z : Type 1 := List (List UInt8) → List (List UInt8) → {R : Type} → (Int → Option R) → Option R
structure C_z27z where
 N : Nat
 z63z : T_z63z
def z27z_L2 (g : C_z27z) : Nat → List (List UInt8) → List (List UInt8) → List (List UInt8) → Int → Int → {R : Type} → (List (List UInt8) → List (List UInt8) → Int → Option R) → (List (List UInt8) → List (List UInt8) → Option R) → Option R
 | 0, _, _, _, _, _, _, _, _ => none
 | n + 1, v3, v4, v5, v6, v7, _, e0, e1 => (bif (decide (v7 < v6)) then (get_ v5 v7 fun x11 => (bif (decide (v7 ≥ (v4.length : Int))) then e0 v3 v4 1 else (get_ v4 v7 fun x12 => (g.z63z x11 x12 (fun r13 => (bif (r13 != 0) then e0 v3 v4 r13 else z27z_L2 g n v3 v4 v5 v6 (w64 (v7 + 1)) e0 e1)))))) else e1 v3 v4)
def z27z_ (g : C_z27z) (a1 a2 : List (List UInt8)) {R : Type} (k0 : Int → Option R) : Option R :=
 (z27z_L2 g g.N a1 a2 a1 (a1.length : Int) 0 (fun e14 e15 e16 => k0 e16) (fun e17 e18 => (bif (decide ((e17.length : Int) < (e18.length : Int))) then k0 (-1) else k0 0)))
noncomputable def I_z27z [Fuel] : C_z27z := ⟨NN, @z63z _⟩
noncomputable def z27z [Fuel] : T_z27z := @z27z_ I_z27z
def SS_z27z (g : T_z27z) : Spec A := fun args => match args with | [.d (.sl 9 a1), .d (.sl 9 a2)] => fun k => g a1 a2 (fun z0 => k (.d (.int .i64 z0)) [.undef, .undef]) | _ => fun _ => none
def sh_z27z_L2 : SSt := mkSh 36 0 [(0, .sl 9), (1, .sl 9), (9, .sl 9), (10, .int .i64), (11, .int .i64)] []
def LP_z27z_L2 (g : C_z27z) (n : Nat) : LPT A := fun ps => match ps with | [.d (.sl 9 p1), .d (.sl 9 p2), .d (.sl 9 p3), .d (.int .i64 p4), .d (.int .i64 p5)] => fun K => z27z_L2 g n p1 p2 p3 p4 p5 (fun z0 z1 z2 => K .ret (mkSt 36 0 [(0, .d (.sl 9 z0)), (1, .d (.sl 9 z1)), (4, .d (.int .i64 z2))] [])) (fun z0 z1 => K (.exit 0) (mkSt 36 0 [(0, .d (.sl 9 z0)), (1, .d (.sl 9 z1))] [])) | _ => fun _ => none
noncomputable def code_112 : Code := (Tryz.f112.body).getD .skip
noncomputable def E_z27z (g : C_z27z) : Env A := mkE [(154, SS_z63z g.z63z)] [] [(2, ⟨[0, 1, 9, 10, 11], [], [], [], [], [], []⟩)] [(2, ⟨[0, 1, 4], [], [], [], [], [], []⟩)] [(2, pieceOf sh_z27z_L2 (LP_z27z_L2 g g.N))] [] [] [] [] []
theorem ct_z27z [Fuel] : NatTab (E_z27z I_z27z).C := ct_of (P := Tryz.prog) (T := T) (.cons ok_z63z .nil) (by kernel_rfl)
noncomputable def cb_z27z_L2 : Code := sub [1, 0, 1, 0, 0] code_112
theorem s_z27z_L2 (g : C_z27z) (n : Nat) : StepOk (E_z27z g) g.N cb_z27z_L2 sh_z27z_L2 (LP_z27z_L2 g) n := by intro ps; unfold LP_z27z_L2; split; exact .inr fun R K => (by kernel_rfl); exact .inl fun R K => rfl
theorem lf_z27z_L2 [Fuel] : LoopFine (E_z27z I_z27z) NN cb_z27z_L2 := fine_loop sh_z27z_L2 (LP_z27z_L2 I_z27z) (by kernel_rfl) ct_z27z (cuts0 (fun _ => rfl) (by kernel_rfl)) (fun ps R K => by unfold LP_z27z_L2; split <;> (try unfold z27z_L2) <;> rfl) (s_z27z_L2 I_z27z)
theorem sm_z27z (g : C_z27z) : Same (SS_z27z (@z27z_ g)) (abody (E_z27z g) Tryz.f112 code_112 0 [] [.asis] g.N) := by intro args; unfold SS_z27z; split; exact .inr fun R k => (by kernel_rfl); exact .inl fun R k => rfl
theorem ok_z27z [Fuel] : Ok 112 (SS_z27z (@z27z _)) := okF_of std (.cons ok_z63z .nil) ⟨rfl, rfl, by kernel_rfl, rfl, rfl, rfl⟩ (sm_z27z I_z27z) (cutsL (fun _ => rfl) (.cons lf_z27z_L2 .nil) (by kernel_rfl)) Tryz.func112 (by kernel_rfl) (by kernel_rfl)
abbrev T_z9z : Type 1 := G_Spot → G_Spot → {R : Type} → (Int → Option R) → Option R
structure C_z9z where
 N : Nat
 z35z : T_z35z
 z27z : T_z27z
def z9z_ (g : C_z9z) (a1 a2 : G_Spot) {R : Type} (k0 : Int → Option R) : Option R :=
 (g.z35z [a1.f_At, a1.f_Hertz] [a2.f_At, a2.f_Hertz] (fun r3 => (bif (r3 != 0) then k0 r3 else (g.z27z [a1.f_Call, a1.f_By] [a2.f_Call, a2.f_By] (fun r4 => k0 r4)))))
noncomputable def I_z9z [Fuel] : C_z9z := ⟨NN, @z35z _, @z27z _⟩
noncomputable def z9z [Fuel] : T_z9z := @z9z_ I_z9z
def SS_z9z (g : T_z9z) : Spec A := fun args => match args with | [.agg [.d (.int .i64 a1), .d (.int .i64 a2), .d (.str a3), .d (.str a4)], .agg [.d (.int .i64 a5), .d (.int .i64 a6), .d (.str a7), .d (.str a8)]] => fun k => g ⟨a1, a2, a3, a4⟩ ⟨a5, a6, a7, a8⟩ (fun z0 => k (.d (.int .i64 z0)) [.undef, .undef]) | _ => fun _ => none
noncomputable def code_59 : Code := (Tryz.f59.body).getD .skip
noncomputable def E_z9z (g : C_z9z) : Env A := mkE [(111, SS_z35z g.z35z), (112, SS_z27z g.z27z)] [(2, [0]), (3, [1]), (10, [2]), (15, [3]), (24, [4]), (29, [5])] [] [] [] [] [] [] [] []
theorem sm_z9z (g : C_z9z) : Same (SS_z9z (@z9z_ g)) (abody (E_z9z g) Tryz.f59 code_59 6 [] [.asis] g.N) := by intro args; unfold SS_z9z; split; exact .inr fun R k => (by kernel_rfl); exact .inl fun R k => rfl
theorem ok_z9z [Fuel] : Ok 59 (SS_z9z (@z9z _)) := okF_of std (.cons ok_z35z (.cons ok_z27z .nil)) ⟨rfl, rfl, by kernel_rfl, rfl, rfl, rfl⟩ (sm_z9z I_z9z) (cuts0 (fun _ => rfl) (by kernel_rfl)) Tryz.func59 (by kernel_rfl) (by kernel_rfl)
end Go.Am
