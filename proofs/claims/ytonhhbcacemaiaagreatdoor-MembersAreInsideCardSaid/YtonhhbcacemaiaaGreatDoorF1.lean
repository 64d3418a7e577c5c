/- The functions of the program as Lean functions, each shown to be what the code computes, part 1. No condition: lemmas for the claim. -/
import Derived.Test.YtonhhbcacemaiaaGreatDoorF0
import Derived.Test.YtonhhbcacemaiaaGreatDoorFSh
set_option linter.unusedVariables false
set_option maxRecDepth 100000
namespace Go.Am
open Go Go.Proofs
abbrev T_M_Below : Type 1 := Int → Int → {R : Type} → (Int → Option R) → Option R
def M_Below_ (g : Nat) (a1 a2 : Int) {R : Type} (k0 : Int → Option R) : Option R :=
 (bif (decide (a2 < 1)) then k0 0 else (bif (a2 == 0) then none else (bif (decide ((Int.tmod a1 a2) < 0)) then k0 (w64 ((Int.tmod a1 a2) + a2)) else k0 (Int.tmod a1 a2))))
noncomputable def M_Below [Fuel] : T_M_Below := @M_Below_ NN
def SS_M_Below (g : T_M_Below) : Spec A := fun args => match args with | [.d (.int .i64 a1), .d (.int .i64 a2)] => fun k => g a1 a2 (fun z0 => k (.d (.int .i64 z0)) [.undef, .undef]) | _ => fun _ => none
noncomputable def code_103 : Code := (Tryz.f103.body).getD .skip
noncomputable def E_M_Below (g : Nat) : Env A := mkE [] [] [] [] [] [] [] [] [] []
theorem sm_M_Below (g : Nat) : Same (SS_M_Below (@M_Below_ g)) (abody (E_M_Below g) Tryz.f103 code_103 0 [] [.asis] g) := by intro args; unfold SS_M_Below; split; exact .inr fun R k => (by kernel_rfl); exact .inl fun R k => rfl
theorem ok_M_Below [Fuel] : Ok 103 (SS_M_Below (@M_Below _)) := okF_of std .nil ⟨rfl, rfl, by kernel_rfl, rfl, rfl, rfl⟩ (sm_M_Below NN) (cuts0 (fun _ => rfl) (by kernel_rfl)) Tryz.func103 (by kernel_rfl) (by kernel_rfl)
abbrev T_z61z : Type 1 := G_Stream → Int → {R : Type} → (Int → G_Stream → Option R) → Option R
structure C_z61z where
 N : Nat
 M_Below : T_M_Below
def z61z_ (g : C_z61z) (a1 : G_Stream) (a2 : Int) {R : Type} (k0 : Int → G_Stream → Option R) : Option R :=
 (bif ((a1.f_L.length : Int) == 0) then (g.M_Below (w64 ((w64 (a1.f_at + 1)) * 7919)) a2 (fun r3 => k0 r3 (⟨a1.f_L, (w64 (a1.f_at + 1))⟩ : G_Stream))) else (bif ((a1.f_L.length : Int) == 0) then none else (bif ((a1.f_L.length : Int) == 0) then none else (get_ a1.f_L (Int.tmod (w64 ((w64 (a1.f_at + 1)) - 1)) (a1.f_L.length : Int)) fun x4 => (g.M_Below x4 1073741824 (fun r5 => (g.M_Below (w64 (r5 + (w64 ((w64 (Int.tdiv (w64 ((w64 (a1.f_at + 1)) - 1)) (a1.f_L.length : Int))) * (w64 (7919 + (Int.tmod (w64 ((w64 (a1.f_at + 1)) - 1)) (a1.f_L.length : Int)))))))) a2 (fun r6 => k0 r6 (⟨a1.f_L, (w64 (a1.f_at + 1))⟩ : G_Stream)))))))))
noncomputable def I_z61z [Fuel] : C_z61z := ⟨NN, @M_Below _⟩
noncomputable def z61z [Fuel] : T_z61z := @z61z_ I_z61z
def SS_z61z (g : T_z61z) : Spec A := fun args => match args with | [.box [.d (.sl 3 a1), .d (.int .i64 a2)], .d (.int .i64 a3)] => fun k => g ⟨a1, a2⟩ a3 (fun z0 z1 => k (.d (.int .i64 z0)) [.box [.d (.sl 3 z1.f_L), .d (.int .i64 z1.f_at)], .undef]) | _ => fun _ => none
noncomputable def code_42 : Code := (Tryz.f42.body).getD .skip
noncomputable def E_z61z (g : C_z61z) : Env A := mkE [(103, SS_M_Below g.M_Below)] [] [] [] [] [] [] [] [] [0]
theorem sm_z61z (g : C_z61z) : Same (SS_z61z (@z61z_ g)) (abody (E_z61z g) Tryz.f42 code_42 1 [0] [.asis] g.N) := by intro args; unfold SS_z61z; split; exact .inr fun R k => (by kernel_rfl); exact .inl fun R k => rfl
theorem ok_z61z [Fuel] : Ok 42 (SS_z61z (@z61z _)) := okF_of std (.cons ok_M_Below .nil) ⟨rfl, rfl, by kernel_rfl, rfl, rfl, rfl⟩ (sm_z61z I_z61z) (cuts0 (fun _ => rfl) (by kernel_rfl)) Tryz.func42 (by kernel_rfl) (by kernel_rfl)
abbrev T_z66z : Type 1 := G_Stream → Int → {R : Type} → (Bool → G_Stream → Option R) → Option R
structure C_z66z where
 N : Nat
 z61z : T_z61z
def z66z_ (g : C_z66z) (a1 : G_Stream) (a2 : Int) {R : Type} (k0 : Bool → G_Stream → Option R) : Option R :=
 (g.z61z a1 a2 (fun r3 r4 => k0 (r3 == 0) r4))
noncomputable def I_z66z [Fuel] : C_z66z := ⟨NN, @z61z _⟩
noncomputable def z66z [Fuel] : T_z66z := @z66z_ I_z66z
def SS_z66z (g : T_z66z) : Spec A := fun args => match args with | [.box [.d (.sl 3 a1), .d (.int .i64 a2)], .d (.int .i64 a3)] => fun k => g ⟨a1, a2⟩ a3 (fun z0 z1 => k (.d (.bool z0)) [.box [.d (.sl 3 z1.f_L), .d (.int .i64 z1.f_at)], .undef]) | _ => fun _ => none
noncomputable def code_40 : Code := (Tryz.f40.body).getD .skip
noncomputable def E_z66z (g : C_z66z) : Env A := mkE [(42, SS_z61z g.z61z)] [] [] [] [] [] [] [] [] [0]
theorem sm_z66z (g : C_z66z) : Same (SS_z66z (@z66z_ g)) (abody (E_z66z g) Tryz.f40 code_40 1 [0] [.asis] g.N) := by intro args; unfold SS_z66z; split; exact .inr fun R k => (by kernel_rfl); exact .inl fun R k => rfl
theorem ok_z66z [Fuel] : Ok 40 (SS_z66z (@z66z _)) := okF_of std (.cons ok_z61z .nil) ⟨rfl, rfl, by kernel_rfl, rfl, rfl, rfl⟩ (sm_z66z I_z66z) (cuts0 (fun _ => rfl) (by kernel_rfl)) Tryz.func40 (by kernel_rfl) (by kernel_rfl)
abbrev T_z16z : Type 1 := G_Stream → {R : Type} → (List G_Club → G_Stream → Option R) → Option R
structure C_z16z where
 N : Nat
 z66z : T_z66z
def z16z_L8 (g : C_z16z) : Nat → Int → Int → Int → Int → G_Stream → List (List UInt8) → List G_Club → List UInt8 → List (List UInt8) → List (List UInt8) → {R : Type} → (Int → Int → G_Stream → List (List UInt8) → List G_Club → List UInt8 → List (List UInt8) → Option R) → Option R
 | 0, _, _, _, _, _, _, _, _, _, _, _, _ => none
 | n + 1, v36, v37, v38, v39, v40, v41, v42, v43, v44, v45, _, e0 => (bif (decide (v39 < v38)) then (inr v44 v39 (at_ v44 v39 fun x49 => (g.z66z v40 3 (fun r50 r51 => (bif r50 then (bif (decide ((v45.length + [x49].length) * 16 ≤ roomBytes')) then z16z_L8 g n v36 v37 v38 (w64 (v39 + 1)) r51 v41 v42 v43 v44 (v45 ++ [x49]) e0 else none) else z16z_L8 g n v36 v37 v38 (w64 (v39 + 1)) r51 v41 v42 v43 v44 v45 e0))))) else e0 v36 v37 v40 v41 v42 v43 v45)
def z16z_L3 (g : C_z16z) : Nat → Int → Int → G_Stream → List (List UInt8) → List G_Club → {R : Type} → (G_Stream → List G_Club → Option R) → Option R
 | 0, _, _, _, _, _, _, _ => none
 | n + 1, v2, v3, v4, v5, v6, _, e0 => (bif (decide (v3 < v2)) then (inr v5 v3 (at_ v5 v3 fun x33 => (g.z66z v4 6 (fun r34 r35 => (bif r34 then z16z_L3 g n v2 (w64 (v3 + 1)) r35 v5 v6 e0 else (z16z_L8 g g.N v2 v3 ([[106, 111, 54, 50], [107, 112], [107, 112, 50, 48], [107, 112, 50, 48, 108, 102]].length : Int) 0 r35 v5 v6 x33 [[106, 111, 54, 50], [107, 112], [107, 112, 50, 48], [107, 112, 50, 48, 108, 102]] [] (fun e52 e53 e54 e55 e56 e57 e58 => (bif (decide ((e56.length + [(⟨e57, e58⟩ : G_Club)].length) * 40 ≤ roomBytes')) then z16z_L3 g n e52 (w64 (e53 + 1)) e54 e55 (e56 ++ [(⟨e57, e58⟩ : G_Club)]) e0 else none)))))))) else e0 v4 v6)
def z16z_ (g : C_z16z) (a1 : G_Stream) {R : Type} (k0 : List G_Club → G_Stream → Option R) : Option R :=
 (z16z_L3 g g.N ([[101, 97, 115, 116], [110, 111, 114, 116, 104], [119, 101, 115, 116]].length : Int) 0 a1 [[101, 97, 115, 116], [110, 111, 114, 116, 104], [119, 101, 115, 116]] [] (fun e59 e60 => k0 e60 e59))
noncomputable def I_z16z [Fuel] : C_z16z := ⟨NN, @z66z _⟩
noncomputable def z16z [Fuel] : T_z16z := @z16z_ I_z16z
def SS_z16z (g : T_z16z) : Spec A := fun args => match args with | [.box [.d (.sl 3 a1), .d (.int .i64 a2)]] => fun k => g ⟨a1, a2⟩ (fun z0 z1 => k (.arr 81 z0) [.box [.d (.sl 3 z1.f_L), .d (.int .i64 z1.f_at)]]) | _ => fun _ => none
def sh_z16z_L8 : SSt := mkSh 40 10 [(0, .ptr 0 0), (3, .own 81 2), (6, .ptr 3 0), (9, .own 9 1), (10, .int .i64), (11, .int .i64), (19, .own 9 4), (20, .int .i64), (21, .int .i64)] [(0, .box [.sl 3, .int .i64]), (1, .row 9), (2, .row 81), (3, .box [.str, .own 9 5]), (4, .row 9), (5, .row 9)]
def LP_z16z_L8 (g : C_z16z) (n : Nat) : LPT A := fun ps => match ps with | [.d (.int .i64 p1), .d (.int .i64 p2), .d (.int .i64 p3), .d (.int .i64 p4), .d (.sl 3 p5), .d (.int .i64 p6), .d (.sl 9 p7), .d (.sl 81 p8), .d (.str p9), .d (.sl 9 p10), .d (.sl 9 p11)] => fun K => z16z_L8 g n p1 p2 p3 p4 ⟨p5, p6⟩ p7 p8 p9 p10 p11 (fun z0 z1 z2 z3 z4 z5 z6 => K (.exit 2) (mkSt 40 10 [(0, .ptr 0 0), (3, .own 81 2), (6, .ptr 3 0), (9, .own 9 1), (10, .d (.int .i64 z0)), (11, .d (.int .i64 z1))] [(0, some (.box [.d (.sl 3 z2.f_L), .d (.int .i64 z2.f_at)])), (1, some (.row 9 z3)), (2, some (.row 81 z4)), (3, some (.box [.d (.str z5), .own 9 5])), (5, some (.row 9 z6))])) | _ => fun _ => none
def sh_z16z_L3 : SSt := mkSh 40 10 [(0, .ptr 0 0), (3, .own 81 2), (9, .own 9 1), (10, .int .i64), (11, .int .i64)] [(0, .box [.sl 3, .int .i64]), (1, .row 9), (2, .row 81)]
def LP_z16z_L3 (g : C_z16z) (n : Nat) : LPT A := fun ps => match ps with | [.d (.int .i64 p1), .d (.int .i64 p2), .d (.sl 3 p3), .d (.int .i64 p4), .d (.sl 9 p5), .d (.sl 81 p6)] => fun K => z16z_L3 g n p1 p2 ⟨p3, p4⟩ p5 p6 (fun z0 z1 => K (.exit 0) (mkSt 40 10 [(0, .ptr 0 0), (3, .own 81 2)] [(0, some (.box [.d (.sl 3 z0.f_L), .d (.int .i64 z0.f_at)])), (2, some (.row 81 z1))])) | _ => fun _ => none
noncomputable def code_27 : Code := (Tryz.f27.body).getD .skip
noncomputable def E_z16z (g : C_z16z) : Env A := mkE [(40, SS_z66z g.z66z)] [(6, [3]), (9, [1]), (19, [4]), (30, [6]), (31, [7]), (36, [8]), (37, [9])] [(8, ⟨[0, 3, 6, 9, 10, 11, 19, 20, 21], [], [0, 1, 2, 3, 4], [(3, 1, 9, 5)], [], []⟩), (3, ⟨[0, 3, 9, 10, 11], [(3, 81, 2)], [0, 1], [], [], []⟩)] [(8, ⟨[0, 3, 6, 9, 10, 11], [], [0, 1, 2, 3, 5], [], [], []⟩), (3, ⟨[0, 3], [], [0, 2], [], [], []⟩)] [(8, pieceOf sh_z16z_L8 (LP_z16z_L8 g g.N)), (3, pieceOf sh_z16z_L3 (LP_z16z_L3 g g.N))] [] [] [] [] [0]
theorem ct_z16z [Fuel] : NatTab (E_z16z I_z16z).C := ct_of (P := Tryz.prog) (T := T) (.cons ok_z66z .nil) (by kernel_rfl)
noncomputable def cb_z16z_L8 : Code := sub [1, 1, 0, 1, 0, 0, 1, 1, 0, 0, 1, 1, 1, 0, 1, 0, 0] code_27
theorem s_z16z_L8 (g : C_z16z) (n : Nat) : StepOk (E_z16z g) g.N cb_z16z_L8 sh_z16z_L8 (LP_z16z_L8 g) n := by intro ps; unfold LP_z16z_L8; split; exact .inr fun R K => (by kernel_rfl); exact .inl fun R K => rfl
theorem lf_z16z_L8 [Fuel] : LoopFine (E_z16z I_z16z) NN cb_z16z_L8 := fine_loop sh_z16z_L8 (LP_z16z_L8 I_z16z) (by kernel_rfl) ct_z16z (cuts0 (fun _ => rfl) (by kernel_rfl)) (fun ps R K => by unfold LP_z16z_L8; split <;> (try unfold z16z_L8) <;> rfl) (s_z16z_L8 I_z16z)
noncomputable def cb_z16z_L3 : Code := sub [1, 1, 0, 1, 0, 0] code_27
theorem s_z16z_L3 (g : C_z16z) (n : Nat) : StepOk (E_z16z g) g.N cb_z16z_L3 sh_z16z_L3 (LP_z16z_L3 g) n := by intro ps; unfold LP_z16z_L3; split; exact .inr fun R K => (by kernel_rfl); exact .inl fun R K => rfl
theorem lf_z16z_L3 [Fuel] : LoopFine (E_z16z I_z16z) NN cb_z16z_L3 := fine_loop sh_z16z_L3 (LP_z16z_L3 I_z16z) (by kernel_rfl) ct_z16z (cutsL (fun _ => rfl) (.cons lf_z16z_L8 .nil) (by kernel_rfl)) (fun ps R K => by unfold LP_z16z_L3; split <;> (try unfold z16z_L3) <;> rfl) (s_z16z_L3 I_z16z)
theorem sm_z16z (g : C_z16z) : Same (SS_z16z (@z16z_ g)) (abody (E_z16z g) Tryz.f27 code_27 10 [0] [.arr 81] g.N) := by intro args; unfold SS_z16z; split; exact .inr fun R k => (by kernel_rfl); exact .inl fun R k => rfl
theorem ok_z16z [Fuel] : Ok 27 (SS_z16z (@z16z _)) := okF_of std (.cons ok_z66z .nil) ⟨rfl, rfl, by kernel_rfl, rfl, rfl, rfl⟩ (sm_z16z I_z16z) (cutsL (fun _ => rfl) (.cons lf_z16z_L8 (.cons lf_z16z_L3 .nil)) (by kernel_rfl)) Tryz.func27 (by kernel_rfl) (by kernel_rfl)
abbrev T_z60z : Type 1 := G_Stream → Int → Int → {R : Type} → (Int → G_Stream → Option R) → Option R
structure C_z60z where
 N : Nat
 z61z : T_z61z
def z60z_ (g : C_z60z) (a1 : G_Stream) (a2 a3 : Int) {R : Type} (k0 : Int → G_Stream → Option R) : Option R :=
 (bif (decide (a3 < a2)) then k0 a2 a1 else (g.z61z a1 (w64 ((w64 (a3 - a2)) + 1)) (fun r4 r5 => k0 (w64 (a2 + r4)) r5)))
noncomputable def I_z60z [Fuel] : C_z60z := ⟨NN, @z61z _⟩
noncomputable def z60z [Fuel] : T_z60z := @z60z_ I_z60z
def SS_z60z (g : T_z60z) : Spec A := fun args => match args with | [.box [.d (.sl 3 a1), .d (.int .i64 a2)], .d (.int .i64 a3), .d (.int .i64 a4)] => fun k => g ⟨a1, a2⟩ a3 a4 (fun z0 z1 => k (.d (.int .i64 z0)) [.box [.d (.sl 3 z1.f_L), .d (.int .i64 z1.f_at)], .undef, .undef]) | _ => fun _ => none
noncomputable def code_8 : Code := (Tryz.f8.body).getD .skip
noncomputable def E_z60z (g : C_z60z) : Env A := mkE [(42, SS_z61z g.z61z)] [] [] [] [] [] [] [] [] [0]
theorem sm_z60z (g : C_z60z) : Same (SS_z60z (@z60z_ g)) (abody (E_z60z g) Tryz.f8 code_8 1 [0] [.asis] g.N) := by intro args; unfold SS_z60z; split; exact .inr fun R k => (by kernel_rfl); exact .inl fun R k => rfl
theorem ok_z60z [Fuel] : Ok 8 (SS_z60z (@z60z _)) := okF_of std (.cons ok_z61z .nil) ⟨rfl, rfl, by kernel_rfl, rfl, rfl, rfl⟩ (sm_z60z I_z60z) (cuts0 (fun _ => rfl) (by kernel_rfl)) Tryz.func8 (by kernel_rfl) (by kernel_rfl)
abbrev T_z76z : Type 1 := G_Stream → List (List UInt8) → {R : Type} → (List UInt8 → G_Stream → Option R) → Option R
structure C_z76z where
 N : Nat
 z61z : T_z61z
def z76z_ (g : C_z76z) (a1 : G_Stream) (a2 : List (List UInt8)) {R : Type} (k0 : List UInt8 → G_Stream → Option R) : Option R :=
 (g.z61z a1 (a2.length : Int) (fun r3 r4 => (get_ a2 r3 fun x5 => k0 x5 r4)))
noncomputable def I_z76z [Fuel] : C_z76z := ⟨NN, @z61z _⟩
noncomputable def z76z [Fuel] : T_z76z := @z76z_ I_z76z
def SS_z76z (g : T_z76z) : Spec A := fun args => match args with | [.box [.d (.sl 3 a1), .d (.int .i64 a2)], .d (.sl 9 a3)] => fun k => g ⟨a1, a2⟩ a3 (fun z0 z1 => k (.d (.str z0)) [.box [.d (.sl 3 z1.f_L), .d (.int .i64 z1.f_at)], .undef]) | _ => fun _ => none
noncomputable def code_43 : Code := (Tryz.f43.body).getD .skip
noncomputable def E_z76z (g : C_z76z) : Env A := mkE [(42, SS_z61z g.z61z)] [] [] [] [] [] [] [] [] [0]
theorem sm_z76z (g : C_z76z) : Same (SS_z76z (@z76z_ g)) (abody (E_z76z g) Tryz.f43 code_43 1 [0] [.asis] g.N) := by intro args; unfold SS_z76z; split; exact .inr fun R k => (by kernel_rfl); exact .inl fun R k => rfl
theorem ok_z76z [Fuel] : Ok 43 (SS_z76z (@z76z _)) := okF_of std (.cons ok_z61z .nil) ⟨rfl, rfl, by kernel_rfl, rfl, rfl, rfl⟩ (sm_z76z I_z76z) (cuts0 (fun _ => rfl) (by kernel_rfl)) Tryz.func43 (by kernel_rfl) (by kernel_rfl)
abbrev T_z87z : Type 1 := G_Stream → List Int → {R : Type} → (Int → G_Stream → Option R) → Option R
structure C_z87z where
 N : Nat
 z61z : T_z61z
def z87z_ (g : C_z87z) (a1 : G_Stream) (a2 : List Int) {R : Type} (k0 : Int → G_Stream → Option R) : Option R :=
 (g.z61z a1 (a2.length : Int) (fun r3 r4 => (get_ a2 r3 fun x5 => k0 x5 r4)))
noncomputable def I_z87z [Fuel] : C_z87z := ⟨NN, @z61z _⟩
noncomputable def z87z [Fuel] : T_z87z := @z87z_ I_z87z
def SS_z87z (g : T_z87z) : Spec A := fun args => match args with | [.box [.d (.sl 3 a1), .d (.int .i64 a2)], .d (.sl 3 a3)] => fun k => g ⟨a1, a2⟩ a3 (fun z0 z1 => k (.d (.int .i64 z0)) [.box [.d (.sl 3 z1.f_L), .d (.int .i64 z1.f_at)], .undef]) | _ => fun _ => none
noncomputable def code_41 : Code := (Tryz.f41.body).getD .skip
noncomputable def E_z87z (g : C_z87z) : Env A := mkE [(42, SS_z61z g.z61z)] [] [] [] [] [] [] [] [] [0]
theorem sm_z87z (g : C_z87z) : Same (SS_z87z (@z87z_ g)) (abody (E_z87z g) Tryz.f41 code_41 1 [0] [.asis] g.N) := by intro args; unfold SS_z87z; split; exact .inr fun R k => (by kernel_rfl); exact .inl fun R k => rfl
theorem ok_z87z [Fuel] : Ok 41 (SS_z87z (@z87z _)) := okF_of std (.cons ok_z61z .nil) ⟨rfl, rfl, by kernel_rfl, rfl, rfl, rfl⟩ (sm_z87z I_z87z) (cuts0 (fun _ => rfl) (by kernel_rfl)) Tryz.func41 (by kernel_rfl) (by kernel_rfl)
abbrev T_Stream_Odd : Type 1 := G_Stream → Int → Int → {R : Type} → (Int → G_Stream → Option R) → Option R
structure C_Stream_Odd where
 N : Nat
 z60z : T_z60z
 z66z : T_z66z
 z87z : T_z87z
def Stream_Odd_ (g : C_Stream_Odd) (a1 : G_Stream) (a2 a3 : Int) {R : Type} (k0 : Int → G_Stream → Option R) : Option R :=
 (g.z66z a1 12 (fun r4 r5 => (bif r4 then (g.z87z r5 [(w64 (a2 - 1)), (w64 (a3 + 1)), a2, a3, (-1099511627776), 1099511627776] (fun r6 r7 => k0 r6 r7)) else (g.z60z r5 a2 a3 (fun r8 r9 => k0 r8 r9)))))
noncomputable def I_Stream_Odd [Fuel] : C_Stream_Odd := ⟨NN, @z60z _, @z66z _, @z87z _⟩
noncomputable def Stream_Odd [Fuel] : T_Stream_Odd := @Stream_Odd_ I_Stream_Odd
def SS_Stream_Odd (g : T_Stream_Odd) : Spec A := fun args => match args with | [.box [.d (.sl 3 a1), .d (.int .i64 a2)], .d (.int .i64 a3), .d (.int .i64 a4)] => fun k => g ⟨a1, a2⟩ a3 a4 (fun z0 z1 => k (.d (.int .i64 z0)) [.box [.d (.sl 3 z1.f_L), .d (.int .i64 z1.f_at)], .undef, .undef]) | _ => fun _ => none
noncomputable def code_44 : Code := (Tryz.f44.body).getD .skip
noncomputable def E_Stream_Odd (g : C_Stream_Odd) : Env A := mkE [(8, SS_z60z g.z60z), (40, SS_z66z g.z66z), (41, SS_z87z g.z87z)] [(16, [1])] [] [] [] [] [] [] [] [0]
theorem sm_Stream_Odd (g : C_Stream_Odd) : Same (SS_Stream_Odd (@Stream_Odd_ g)) (abody (E_Stream_Odd g) Tryz.f44 code_44 2 [0] [.asis] g.N) := by intro args; unfold SS_Stream_Odd; split; exact .inr fun R k => (by kernel_rfl); exact .inl fun R k => rfl
theorem ok_Stream_Odd [Fuel] : Ok 44 (SS_Stream_Odd (@Stream_Odd _)) := okF_of std (.cons ok_z60z (.cons ok_z66z (.cons ok_z87z .nil))) ⟨rfl, rfl, by kernel_rfl, rfl, rfl, rfl⟩ (sm_Stream_Odd I_Stream_Odd) (cuts0 (fun _ => rfl) (by kernel_rfl)) Tryz.func44 (by kernel_rfl) (by kernel_rfl)
abbrev T_z19z : Type 1 := G_Stream → List G_Club → {R : Type} → (List G_Member → G_Stream → Option R) → Option R
structure C_z19z where
 N : Nat
 z60z : T_z60z
 z66z : T_z66z
 z61z : T_z61z
 z76z : T_z76z
 Stream_Odd : T_Stream_Odd
def z19z_L7 (g : C_z19z) : Nat → List G_Club → List UInt8 → Int → Int → Int → Int → Int → G_Stream → List (List UInt8) → List G_Member → {R : Type} → (List G_Club → Int → Int → G_Stream → List (List UInt8) → List G_Member → Option R) → Option R
 | 0, _, _, _, _, _, _, _, _, _, _, _, _ => none
 | n + 1, v133, v134, v135, v136, v137, v138, v139, v140, v141, v142, _, e0 => (bif (decide (v139 < v138)) then (g.z76z v140 [[107, 112, 50, 48, 108, 102], [107, 112, 50, 48, 97, 97], [107, 112, 50, 49, 120, 120], [106, 111, 54, 50, 113, 109], [97, 97, 48, 48, 97, 97]] (fun r192 r193 => (bif (decide ((v133.length : Int) > 0)) then (g.z66z r193 5 (fun r194 r195 => (bif (!r194) then (g.z61z r195 (v133.length : Int) (fun r196 r197 => (get_ v133 r196 fun x198 => (g.z66z r197 60 (fun r199 r200 => (bif r199 then (g.z76z r200 [v134, [107, 49, 97, 98, 47, 52], []] (fun r201 r202 => (g.z76z r202 [x198.f_Key, [110, 111, 98, 111, 100, 121]] (fun r203 r204 => (g.Stream_Odd r204 0 9 (fun r205 r206 => (g.z76z r206 [[107, 112, 50, 48], [107, 112, 50, 48, 108, 122], [107, 112, 50, 48, 108, 102]] (fun r207 r208 => (bif (decide ((v142.length + [(⟨r201, r203, r205, r207⟩ : G_Member)].length) * 56 ≤ roomBytes')) then (g.z60z r208 1 3 (fun r209 r210 => z19z_L7 g n v133 v134 (w64 (v135 + r209)) v136 v137 v138 (w64 (v139 + 1)) r210 v141 (v142 ++ [(⟨r201, r203, r205, r207⟩ : G_Member)]) e0)) else none))))))))) else (bif (decide ((v142.length + [(⟨v134, x198.f_Key, v135, r192⟩ : G_Member)].length) * 56 ≤ roomBytes')) then (g.z60z r200 1 3 (fun r211 r212 => z19z_L7 g n v133 v134 (w64 (v135 + r211)) v136 v137 v138 (w64 (v139 + 1)) r212 v141 (v142 ++ [(⟨v134, x198.f_Key, v135, r192⟩ : G_Member)]) e0)) else none))))))) else (g.z66z r195 60 (fun r213 r214 => (bif r213 then (g.z76z r214 [v134, [107, 49, 97, 98, 47, 52], []] (fun r215 r216 => (g.z76z r216 [[], [110, 111, 98, 111, 100, 121]] (fun r217 r218 => (g.Stream_Odd r218 0 9 (fun r219 r220 => (g.z76z r220 [[107, 112, 50, 48], [107, 112, 50, 48, 108, 122], [107, 112, 50, 48, 108, 102]] (fun r221 r222 => (bif (decide ((v142.length + [(⟨r215, r217, r219, r221⟩ : G_Member)].length) * 56 ≤ roomBytes')) then (g.z60z r222 1 3 (fun r223 r224 => z19z_L7 g n v133 v134 (w64 (v135 + r223)) v136 v137 v138 (w64 (v139 + 1)) r224 v141 (v142 ++ [(⟨r215, r217, r219, r221⟩ : G_Member)]) e0)) else none))))))))) else (bif (decide ((v142.length + [(⟨v134, [], v135, r192⟩ : G_Member)].length) * 56 ≤ roomBytes')) then (g.z60z r214 1 3 (fun r225 r226 => z19z_L7 g n v133 v134 (w64 (v135 + r225)) v136 v137 v138 (w64 (v139 + 1)) r226 v141 (v142 ++ [(⟨v134, [], v135, r192⟩ : G_Member)]) e0)) else none))))))) else (g.z66z r193 60 (fun r227 r228 => (bif r227 then (g.z76z r228 [v134, [107, 49, 97, 98, 47, 52], []] (fun r229 r230 => (g.z76z r230 [[], [110, 111, 98, 111, 100, 121]] (fun r231 r232 => (g.Stream_Odd r232 0 9 (fun r233 r234 => (g.z76z r234 [[107, 112, 50, 48], [107, 112, 50, 48, 108, 122], [107, 112, 50, 48, 108, 102]] (fun r235 r236 => (bif (decide ((v142.length + [(⟨r229, r231, r233, r235⟩ : G_Member)].length) * 56 ≤ roomBytes')) then (g.z60z r236 1 3 (fun r237 r238 => z19z_L7 g n v133 v134 (w64 (v135 + r237)) v136 v137 v138 (w64 (v139 + 1)) r238 v141 (v142 ++ [(⟨r229, r231, r233, r235⟩ : G_Member)]) e0)) else none))))))))) else (bif (decide ((v142.length + [(⟨v134, [], v135, r192⟩ : G_Member)].length) * 56 ≤ roomBytes')) then (g.z60z r228 1 3 (fun r239 r240 => z19z_L7 g n v133 v134 (w64 (v135 + r239)) v136 v137 v138 (w64 (v139 + 1)) r240 v141 (v142 ++ [(⟨v134, [], v135, r192⟩ : G_Member)]) e0)) else none))))))) else e0 v133 v136 v137 v140 v141 v142)
def z19z_L3 (g : C_z19z) : Nat → List G_Club → Int → Int → G_Stream → List (List UInt8) → List G_Member → {R : Type} → (G_Stream → List G_Member → Option R) → Option R
 | 0, _, _, _, _, _, _, _, _ => none
 | n + 1, v3, v4, v5, v6, v7, v8, _, e0 => (bif (decide (v5 < v4)) then (inr v7 v5 (at_ v7 v5 fun x128 => (g.z60z v6 0 5 (fun r129 r130 => (g.z60z r130 0 2 (fun r131 r132 => (z19z_L7 g g.N v3 x128 r129 v4 v5 r131 0 r132 v7 v8 (fun e241 e242 e243 e244 e245 e246 => z19z_L3 g n e241 e242 (w64 (e243 + 1)) e244 e245 e246 e0)))))))) else e0 v6 v8)
def z19z_ (g : C_z19z) (a1 : G_Stream) (a2 : List G_Club) {R : Type} (k0 : List G_Member → G_Stream → Option R) : Option R :=
 (z19z_L3 g g.N a2 ([[107, 49, 97, 98], [111, 104, 50, 97, 98, 99], [111, 104, 50, 97, 98, 100], [119, 49, 97, 119]].length : Int) 0 a1 [[107, 49, 97, 98], [111, 104, 50, 97, 98, 99], [111, 104, 50, 97, 98, 100], [119, 49, 97, 119]] [] (fun e247 e248 => k0 e248 e247))
noncomputable def I_z19z [Fuel] : C_z19z := ⟨NN, @z60z _, @z66z _, @z61z _, @z76z _, @Stream_Odd _⟩
noncomputable def z19z [Fuel] : T_z19z := @z19z_ I_z19z
def SS_z19z (g : T_z19z) : Spec A := fun args => match args with | [.box [.d (.sl 3 a1), .d (.int .i64 a2)], .d (.sl 81 a3)] => fun k => g ⟨a1, a2⟩ a3 (fun z0 z1 => k (.arr 85 z0) [.box [.d (.sl 3 z1.f_L), .d (.int .i64 z1.f_at)], .undef]) | _ => fun _ => none
def sh_z19z_L7 : SSt := mkSh 76 11 [(0, .ptr 0 0), (1, .sl 81), (5, .own 85 3), (7, .str), (8, .int .i64), (10, .own 9 1), (11, .int .i64), (12, .int .i64), (19, .int .i64), (20, .int .i64)] [(0, .box [.sl 3, .int .i64]), (1, .row 9), (3, .row 85)]
def LP_z19z_L7 (g : C_z19z) (n : Nat) : LPT A := fun ps => match ps with | [.d (.sl 81 p1), .d (.str p2), .d (.int .i64 p3), .d (.int .i64 p4), .d (.int .i64 p5), .d (.int .i64 p6), .d (.int .i64 p7), .d (.sl 3 p8), .d (.int .i64 p9), .d (.sl 9 p10), .d (.sl 85 p11)] => fun K => z19z_L7 g n p1 p2 p3 p4 p5 p6 p7 ⟨p8, p9⟩ p10 p11 (fun z0 z1 z2 z3 z4 z5 => K (.exit 2) (mkSt 76 11 [(0, .ptr 0 0), (1, .d (.sl 81 z0)), (5, .own 85 3), (10, .own 9 1), (11, .d (.int .i64 z1)), (12, .d (.int .i64 z2))] [(0, some (.box [.d (.sl 3 z3.f_L), .d (.int .i64 z3.f_at)])), (1, some (.row 9 z4)), (3, some (.row 85 z5))])) | _ => fun _ => none
def sh_z19z_L3 : SSt := mkSh 76 11 [(0, .ptr 0 0), (1, .sl 81), (5, .own 85 2), (10, .own 9 1), (11, .int .i64), (12, .int .i64)] [(0, .box [.sl 3, .int .i64]), (1, .row 9), (2, .row 85)]
def LP_z19z_L3 (g : C_z19z) (n : Nat) : LPT A := fun ps => match ps with | [.d (.sl 81 p1), .d (.int .i64 p2), .d (.int .i64 p3), .d (.sl 3 p4), .d (.int .i64 p5), .d (.sl 9 p6), .d (.sl 85 p7)] => fun K => z19z_L3 g n p1 p2 p3 ⟨p4, p5⟩ p6 p7 (fun z0 z1 => K (.exit 0) (mkSt 76 11 [(0, .ptr 0 0), (5, .own 85 2)] [(0, some (.box [.d (.sl 3 z0.f_L), .d (.int .i64 z0.f_at)])), (2, some (.row 85 z1))])) | _ => fun _ => none
noncomputable def code_28 : Code := (Tryz.f28.body).getD .skip
noncomputable def E_z19z (g : C_z19z) : Env A := mkE [(8, SS_z60z g.z60z), (40, SS_z66z g.z66z), (42, SS_z61z g.z61z), (43, SS_z76z g.z76z), (44, SS_Stream_Odd g.Stream_Odd)] [(9, [5]), (10, [1]), (25, [4]), (49, [6]), (54, [7]), (59, [8]), (67, [9]), (68, [10])] [(7, ⟨[0, 1, 5, 7, 8, 10, 11, 12, 19, 20], [(5, 85, 3)], [0, 1], [], [], []⟩), (3, ⟨[0, 1, 5, 10, 11, 12], [(5, 85, 2)], [0, 1], [], [], []⟩)] [(7, ⟨[0, 1, 5, 10, 11, 12], [], [0, 1, 3], [], [], []⟩), (3, ⟨[0, 5], [], [0, 2], [], [], []⟩)] [(7, pieceOf sh_z19z_L7 (LP_z19z_L7 g g.N)), (3, pieceOf sh_z19z_L3 (LP_z19z_L3 g g.N))] [] [] [] [] [0]
theorem ct_z19z [Fuel] : NatTab (E_z19z I_z19z).C := ct_of (P := Tryz.prog) (T := T) (.cons ok_z60z (.cons ok_z66z (.cons ok_z61z (.cons ok_z76z (.cons ok_Stream_Odd .nil))))) (by kernel_rfl)
noncomputable def cb_z19z_L7 : Code := sub [1, 1, 0, 1, 0, 0, 1, 1, 0, 0, 1, 1, 1, 0, 0] code_28
theorem s_z19z_L7 (g : C_z19z) (n : Nat) : StepOk (E_z19z g) g.N cb_z19z_L7 sh_z19z_L7 (LP_z19z_L7 g) n := by intro ps; unfold LP_z19z_L7; split; exact .inr fun R K => (by kernel_rfl); exact .inl fun R K => rfl
theorem lf_z19z_L7 [Fuel] : LoopFine (E_z19z I_z19z) NN cb_z19z_L7 := fine_loop sh_z19z_L7 (LP_z19z_L7 I_z19z) (by kernel_rfl) ct_z19z (cuts0 (fun _ => rfl) (by kernel_rfl)) (fun ps R K => by unfold LP_z19z_L7; split <;> (try unfold z19z_L7) <;> rfl) (s_z19z_L7 I_z19z)
noncomputable def cb_z19z_L3 : Code := sub [1, 1, 0, 1, 0, 0] code_28
theorem s_z19z_L3 (g : C_z19z) (n : Nat) : StepOk (E_z19z g) g.N cb_z19z_L3 sh_z19z_L3 (LP_z19z_L3 g) n := by intro ps; unfold LP_z19z_L3; split; exact .inr fun R K => (by kernel_rfl); exact .inl fun R K => rfl
theorem lf_z19z_L3 [Fuel] : LoopFine (E_z19z I_z19z) NN cb_z19z_L3 := fine_loop sh_z19z_L3 (LP_z19z_L3 I_z19z) (by kernel_rfl) ct_z19z (cutsL (fun _ => rfl) (.cons lf_z19z_L7 .nil) (by kernel_rfl)) (fun ps R K => by unfold LP_z19z_L3; split <;> (try unfold z19z_L3) <;> rfl) (s_z19z_L3 I_z19z)
theorem sm_z19z (g : C_z19z) : Same (SS_z19z (@z19z_ g)) (abody (E_z19z g) Tryz.f28 code_28 11 [0] [.arr 85] g.N) := by intro args; unfold SS_z19z; split; exact .inr fun R k => (by kernel_rfl); exact .inl fun R k => rfl
theorem ok_z19z [Fuel] : Ok 28 (SS_z19z (@z19z _)) := okF_of std (.cons ok_z60z (.cons ok_z66z (.cons ok_z61z (.cons ok_z76z (.cons ok_Stream_Odd .nil))))) ⟨rfl, rfl, by kernel_rfl, rfl, rfl, rfl⟩ (sm_z19z I_z19z) (cutsL (fun _ => rfl) (.cons lf_z19z_L7 (.cons lf_z19z_L3 .nil)) (by kernel_rfl)) Tryz.func28 (by kernel_rfl) (by kernel_rfl)
abbrev T_Q_in : Type 1 := Int → Int → Int → {R : Type} → (Bool → Option R) → Option R
def Q_in_ (g : Nat) (a1 a2 a3 : Int) {R : Type} (k0 : Bool → Option R) : Option R :=
 (bif (decide (a2 ≤ a1)) then k0 (decide (a1 ≤ a3)) else k0 false)
noncomputable def Q_in [Fuel] : T_Q_in := @Q_in_ NN
def SS_Q_in (g : T_Q_in) : Spec A := fun args => match args with | [.d (.int .i64 a1), .d (.int .i64 a2), .d (.int .i64 a3)] => fun k => g a1 a2 a3 (fun z0 => k (.d (.bool z0)) [.undef, .undef, .undef]) | _ => fun _ => none
noncomputable def code_54 : Code := (Tryz.f54.body).getD .skip
noncomputable def E_Q_in (g : Nat) : Env A := mkE [] [] [] [] [] [] [] [] [] []
theorem sm_Q_in (g : Nat) : Same (SS_Q_in (@Q_in_ g)) (abody (E_Q_in g) Tryz.f54 code_54 0 [] [.asis] g) := by intro args; unfold SS_Q_in; split; exact .inr fun R k => (by kernel_rfl); exact .inl fun R k => rfl
theorem ok_Q_in [Fuel] : Ok 54 (SS_Q_in (@Q_in _)) := okF_of std .nil ⟨rfl, rfl, by kernel_rfl, rfl, rfl, rfl⟩ (sm_Q_in NN) (cuts0 (fun _ => rfl) (by kernel_rfl)) Tryz.func54 (by kernel_rfl) (by kernel_rfl)
abbrev T_strings_IndexByte : Type 1 := List UInt8 → Int → {R : Type} → (Int → Option R) → Option R
def strings_IndexByte [Fuel] : T_strings_IndexByte := @X_ixb
def SS_strings_IndexByte (g : T_strings_IndexByte) : Spec A := SSX_ixb g
theorem ok_strings_IndexByte [Fuel] : Ok 109 (SS_strings_IndexByte (@strings_IndexByte _)) := ⟨ssx_ixb_sound (ixb_sound (Any.strings_IndexByte Tryz.lays137)), ssx_ixb_nat, enters_of (fn := Tryz.f109) Tryz.func109 (by kernel_rfl) (by kernel_rfl)⟩
abbrev T_Q_only : Type 1 := List UInt8 → List UInt8 → {R : Type} → (Bool → Option R) → Option R
structure C_Q_only where
 N : Nat
 strings_IndexByte : T_strings_IndexByte
def Q_only_L2 (g : C_Q_only) : Nat → List UInt8 → List UInt8 → Int → Int → {R : Type} → (Bool → Option R) → Option R → Option R
 | 0, _, _, _, _, _, _, _ => none
 | n + 1, v3, v4, v5, v6, _, e0, e1 => (bif (decide (v6 < v5)) then (get_ v3 v6 fun x9 => (g.strings_IndexByte v4 (x9.toNat : Int) (fun r10 => (bif (decide (r10 < 0)) then e0 false else Q_only_L2 g n v3 v4 v5 (w64 (v6 + 1)) e0 e1)))) else e1)
def Q_only_ (g : C_Q_only) (a1 a2 : List UInt8) {R : Type} (k0 : Bool → Option R) : Option R :=
 (Q_only_L2 g g.N a1 a2 (a1.length : Int) 0 (fun e11 => k0 e11) (k0 true))
noncomputable def I_Q_only [Fuel] : C_Q_only := ⟨NN, @strings_IndexByte _⟩
noncomputable def Q_only [Fuel] : T_Q_only := @Q_only_ I_Q_only
def SS_Q_only (g : T_Q_only) : Spec A := fun args => match args with | [.d (.str a1), .d (.str a2)] => fun k => g a1 a2 (fun z0 => k (.d (.bool z0)) [.undef, .undef]) | _ => fun _ => none
def sh_Q_only_L2 : SSt := mkSh 18 0 [(0, .str), (1, .str), (7, .int .i64), (8, .int .i64)] []
def LP_Q_only_L2 (g : C_Q_only) (n : Nat) : LPT A := fun ps => match ps with | [.d (.str p1), .d (.str p2), .d (.int .i64 p3), .d (.int .i64 p4)] => fun K => Q_only_L2 g n p1 p2 p3 p4 (fun z0 => K .ret (mkSt 18 0 [(4, .d (.bool z0))] [])) (K (.exit 0) (mkSt 18 0 [] [])) | _ => fun _ => none
noncomputable def code_114 : Code := (Tryz.f114.body).getD .skip
noncomputable def E_Q_only (g : C_Q_only) : Env A := mkE [(109, SS_strings_IndexByte g.strings_IndexByte)] [] [(2, ⟨[0, 1, 7, 8], [], [], [], [], []⟩)] [(2, ⟨[4], [], [], [], [], []⟩)] [(2, pieceOf sh_Q_only_L2 (LP_Q_only_L2 g g.N))] [] [] [] [] []
theorem ct_Q_only [Fuel] : NatTab (E_Q_only I_Q_only).C := ct_of (P := Tryz.prog) (T := T) (.cons ok_strings_IndexByte .nil) (by kernel_rfl)
noncomputable def cb_Q_only_L2 : Code := sub [1, 0, 1, 0, 0] code_114
theorem s_Q_only_L2 (g : C_Q_only) (n : Nat) : StepOk (E_Q_only g) g.N cb_Q_only_L2 sh_Q_only_L2 (LP_Q_only_L2 g) n := by intro ps; unfold LP_Q_only_L2; split; exact .inr fun R K => (by kernel_rfl); exact .inl fun R K => rfl
theorem lf_Q_only_L2 [Fuel] : LoopFine (E_Q_only I_Q_only) NN cb_Q_only_L2 := fine_loop sh_Q_only_L2 (LP_Q_only_L2 I_Q_only) (by kernel_rfl) ct_Q_only (cuts0 (fun _ => rfl) (by kernel_rfl)) (fun ps R K => by unfold LP_Q_only_L2; split <;> (try unfold Q_only_L2) <;> rfl) (s_Q_only_L2 I_Q_only)
theorem sm_Q_only (g : C_Q_only) : Same (SS_Q_only (@Q_only_ g)) (abody (E_Q_only g) Tryz.f114 code_114 0 [] [.asis] g.N) := by intro args; unfold SS_Q_only; split; exact .inr fun R k => (by kernel_rfl); exact .inl fun R k => rfl
theorem ok_Q_only [Fuel] : Ok 114 (SS_Q_only (@Q_only _)) := okF_of std (.cons ok_strings_IndexByte .nil) ⟨rfl, rfl, by kernel_rfl, rfl, rfl, rfl⟩ (sm_Q_only I_Q_only) (cutsL (fun _ => rfl) (.cons lf_Q_only_L2 .nil) (by kernel_rfl)) Tryz.func114 (by kernel_rfl) (by kernel_rfl)
abbrev T_Q_Key : Type 1 := List UInt8 → {R : Type} → (Bool → Option R) → Option R
structure C_Q_Key where
 N : Nat
 Q_in : T_Q_in
 Q_only : T_Q_only
def Q_Key_ (g : C_Q_Key) (a1 : List UInt8) {R : Type} (k0 : Bool → Option R) : Option R :=
 (g.Q_in (a1.length : Int) 1 40 (fun r2 => (bif r2 then (bif (decide (0 ≤ 1) && decide (1 ≤ (a1.length : Int))) then (g.Q_only (a1.take (1 : Int).toNat) [97, 98, 99, 100, 101, 102, 103, 104, 105, 106, 107, 108, 109, 110, 111, 112, 113, 114, 115, 116, 117, 118, 119, 120, 121, 122] (fun r3 => (bif r3 then (g.Q_only a1 [97, 98, 99, 100, 101, 102, 103, 104, 105, 106, 107, 108, 109, 110, 111, 112, 113, 114, 115, 116, 117, 118, 119, 120, 121, 122, 48, 49, 50, 51, 52, 53, 54, 55, 56, 57, 45, 95] (fun r4 => k0 r4)) else k0 false))) else none) else k0 false)))
noncomputable def I_Q_Key [Fuel] : C_Q_Key := ⟨NN, @Q_in _, @Q_only _⟩
noncomputable def Q_Key [Fuel] : T_Q_Key := @Q_Key_ I_Q_Key
def SS_Q_Key (g : T_Q_Key) : Spec A := fun args => match args with | [.d (.str a1)] => fun k => g a1 (fun z0 => k (.d (.bool z0)) [.undef]) | _ => fun _ => none
noncomputable def code_53 : Code := (Tryz.f53.body).getD .skip
noncomputable def E_Q_Key (g : C_Q_Key) : Env A := mkE [(54, SS_Q_in g.Q_in), (114, SS_Q_only g.Q_only)] [] [] [] [] [] [] [] [] []
theorem sm_Q_Key (g : C_Q_Key) : Same (SS_Q_Key (@Q_Key_ g)) (abody (E_Q_Key g) Tryz.f53 code_53 0 [] [.asis] g.N) := by intro args; unfold SS_Q_Key; split; exact .inr fun R k => (by kernel_rfl); exact .inl fun R k => rfl
theorem ok_Q_Key [Fuel] : Ok 53 (SS_Q_Key (@Q_Key _)) := okF_of std (.cons ok_Q_in (.cons ok_Q_only .nil)) ⟨rfl, rfl, by kernel_rfl, rfl, rfl, rfl⟩ (sm_Q_Key I_Q_Key) (cuts0 (fun _ => rfl) (by kernel_rfl)) Tryz.func53 (by kernel_rfl) (by kernel_rfl)
abbrev T_z51z : Type 1 := List Int → Int → {R : Type} → (Int → Option R) → Option R
def z51z_L2 (g : Nat) : Nat → List Int → Int → Int → Int → {R : Type} → (Int → Option R) → Option R → Option R
 | 0, _, _, _, _, _, _, _ => none
 | n + 1, v3, v4, v5, v6, _, e0, e1 => (bif (decide (v6 < v5)) then (get_ v3 v6 fun x8 => (bif (v4 == x8) then e0 v6 else z51z_L2 g n v3 v4 v5 (w64 (v6 + 1)) e0 e1)) else e1)
def z51z_ (g : Nat) (a1 : List Int) (a2 : Int) {R : Type} (k0 : Int → Option R) : Option R :=
 (z51z_L2 g g a1 a2 (a1.length : Int) 0 (fun e9 => k0 e9) (k0 (-1)))
noncomputable def z51z [Fuel] : T_z51z := @z51z_ NN
def SS_z51z (g : T_z51z) : Spec A := fun args => match args with | [.d (.sl 3 a1), .d (.int .i64 a2)] => fun k => g a1 a2 (fun z0 => k (.d (.int .i64 z0)) [.undef, .undef]) | _ => fun _ => none
def sh_z51z_L2 : SSt := mkSh 19 0 [(0, .sl 3), (1, .int .i64), (7, .int .i64), (8, .int .i64)] []
def LP_z51z_L2 (g : Nat) (n : Nat) : LPT A := fun ps => match ps with | [.d (.sl 3 p1), .d (.int .i64 p2), .d (.int .i64 p3), .d (.int .i64 p4)] => fun K => z51z_L2 g n p1 p2 p3 p4 (fun z0 => K .ret (mkSt 19 0 [(4, .d (.int .i64 z0))] [])) (K (.exit 0) (mkSt 19 0 [] [])) | _ => fun _ => none
noncomputable def code_160 : Code := (Tryz.f160.body).getD .skip
noncomputable def E_z51z (g : Nat) : Env A := mkE [] [] [(2, ⟨[0, 1, 7, 8], [], [], [], [], []⟩)] [(2, ⟨[4], [], [], [], [], []⟩)] [(2, pieceOf sh_z51z_L2 (LP_z51z_L2 g g))] [] [] [] [] []
theorem ct_z51z [Fuel] : NatTab (E_z51z NN).C := ct_of (P := Tryz.prog) (T := T) .nil (by kernel_rfl)
noncomputable def cb_z51z_L2 : Code := sub [1, 0, 1, 0, 0] code_160
theorem s_z51z_L2 (g : Nat) (n : Nat) : StepOk (E_z51z g) g cb_z51z_L2 sh_z51z_L2 (LP_z51z_L2 g) n := by intro ps; unfold LP_z51z_L2; split; exact .inr fun R K => (by kernel_rfl); exact .inl fun R K => rfl
theorem lf_z51z_L2 [Fuel] : LoopFine (E_z51z NN) NN cb_z51z_L2 := fine_loop sh_z51z_L2 (LP_z51z_L2 NN) (by kernel_rfl) ct_z51z (cuts0 (fun _ => rfl) (by kernel_rfl)) (fun ps R K => by unfold LP_z51z_L2; split <;> (try unfold z51z_L2) <;> rfl) (s_z51z_L2 NN)
theorem sm_z51z (g : Nat) : Same (SS_z51z (@z51z_ g)) (abody (E_z51z g) Tryz.f160 code_160 0 [] [.asis] g) := by intro args; unfold SS_z51z; split; exact .inr fun R k => (by kernel_rfl); exact .inl fun R k => rfl
theorem ok_z51z [Fuel] : Ok 160 (SS_z51z (@z51z _)) := okF_of std .nil ⟨rfl, rfl, by kernel_rfl, rfl, rfl, rfl⟩ (sm_z51z NN) (cutsL (fun _ => rfl) (.cons lf_z51z_L2 .nil) (by kernel_rfl)) Tryz.func160 (by kernel_rfl) (by kernel_rfl)
abbrev T_z53z : Type 1 := List Int → Int → {R : Type} → (Bool → Option R) → Option R
structure C_z53z where
 N : Nat
 z51z : T_z51z
def z53z_ (g : C_z53z) (a1 : List Int) (a2 : Int) {R : Type} (k0 : Bool → Option R) : Option R :=
 (g.z51z a1 a2 (fun r3 => k0 (decide (r3 ≥ 0))))
noncomputable def I_z53z [Fuel] : C_z53z := ⟨NN, @z51z _⟩
noncomputable def z53z [Fuel] : T_z53z := @z53z_ I_z53z
def SS_z53z (g : T_z53z) : Spec A := fun args => match args with | [.d (.sl 3 a1), .d (.int .i64 a2)] => fun k => g a1 a2 (fun z0 => k (.d (.bool z0)) [.undef, .undef]) | _ => fun _ => none
noncomputable def code_111 : Code := (Tryz.f111.body).getD .skip
noncomputable def E_z53z (g : C_z53z) : Env A := mkE [(160, SS_z51z g.z51z)] [] [] [] [] [] [] [] [] []
theorem sm_z53z (g : C_z53z) : Same (SS_z53z (@z53z_ g)) (abody (E_z53z g) Tryz.f111 code_111 0 [] [.asis] g.N) := by intro args; unfold SS_z53z; split; exact .inr fun R k => (by kernel_rfl); exact .inl fun R k => rfl
theorem ok_z53z [Fuel] : Ok 111 (SS_z53z (@z53z _)) := okF_of std (.cons ok_z51z .nil) ⟨rfl, rfl, by kernel_rfl, rfl, rfl, rfl⟩ (sm_z53z I_z53z) (cuts0 (fun _ => rfl) (by kernel_rfl)) Tryz.func111 (by kernel_rfl) (by kernel_rfl)
end Go.Am
