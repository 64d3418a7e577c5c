/- The functions of the program as Lean functions, each shown to be what the code computes, part 8. No condition: lemmas for the claim. -/
import Derived.Test.YtkcbebmbmffkjaaGreatDoorF0
import Derived.Test.YtkcbebmbmffkjaaGreatDoorFSh
set_option linter.unusedVariables false
set_option maxRecDepth 100000
namespace Go.Am
open Go Go.Proofs
abbrev T_Q_BandAt : Type 1 := List G_Band → Int → {R : Type} → (List UInt8 → Option R) → Option R
def Q_BandAt_L2 (g : Nat) : Nat → Int → List G_Band → Int → Int → {R : Type} → (List UInt8 → Option R) → Option R → Option R
 | 0, _, _, _, _, _, _, _ => none
 | n + 1, v3, v4, v5, v6, _, e0, e1 => (bif (decide (v6 < v5)) then (get_ v4 v6 fun x8 => (bif (decide (x8.f_Low ≤ v3)) then (bif (decide (v3 < x8.f_High)) then e0 x8.f_Key else Q_BandAt_L2 g n v3 v4 v5 (w64 (v6 + 1)) e0 e1) else Q_BandAt_L2 g n v3 v4 v5 (w64 (v6 + 1)) e0 e1)) else e1)
def Q_BandAt_ (g : Nat) (a1 : List G_Band) (a2 : Int) {R : Type} (k0 : List UInt8 → Option R) : Option R :=
 (Q_BandAt_L2 g g a2 a1 (a1.length : Int) 0 (fun e9 => k0 e9) (k0 []))
noncomputable def Q_BandAt [Fuel] : T_Q_BandAt := @Q_BandAt_ NN
def SS_Q_BandAt (g : T_Q_BandAt) : Spec A := fun args => match args with | [.d (.sl 69 a1), .d (.int .i64 a2)] => fun k => g a1 a2 (fun z0 => k (.d (.str z0)) [.undef, .undef]) | _ => fun _ => none
def sh_Q_BandAt_L2 : SSt := mkSh 26 1 [(1, .int .i64), (7, .sl 69), (8, .int .i64), (9, .int .i64)] []
def LP_Q_BandAt_L2 (g : Nat) (n : Nat) : LPT A := fun ps => match ps with | [.d (.int .i64 p1), .d (.sl 69 p2), .d (.int .i64 p3), .d (.int .i64 p4)] => fun K => Q_BandAt_L2 g n p1 p2 p3 p4 (fun z0 => K .ret (mkSt 26 1 [(4, .d (.str z0))] [])) (K (.exit 0) (mkSt 26 1 [] [])) | _ => fun _ => none
noncomputable def code_67 : Code := (Tryz.f67.body).getD .skip
noncomputable def E_Q_BandAt (g : Nat) : Env A := mkE [] [(6, [0])] [(2, ⟨[1, 7, 8, 9], [], [], [], [], [], []⟩)] [(2, ⟨[4], [], [], [], [], [], []⟩)] [(2, pieceOf sh_Q_BandAt_L2 (LP_Q_BandAt_L2 g g))] [] [] [] [] []
theorem ct_Q_BandAt [Fuel] : NatTab (E_Q_BandAt NN).C := ct_of (P := Tryz.prog) (T := T) .nil (by kernel_rfl)
noncomputable def cb_Q_BandAt_L2 : Code := sub [1, 0, 1, 0, 0] code_67
theorem s_Q_BandAt_L2 (g : Nat) (n : Nat) : StepOk (E_Q_BandAt g) g cb_Q_BandAt_L2 sh_Q_BandAt_L2 (LP_Q_BandAt_L2 g) n := by intro ps; unfold LP_Q_BandAt_L2; split; exact .inr fun R K => (by kernel_rfl); exact .inl fun R K => rfl
theorem lf_Q_BandAt_L2 [Fuel] : LoopFine (E_Q_BandAt NN) NN cb_Q_BandAt_L2 := fine_loop sh_Q_BandAt_L2 (LP_Q_BandAt_L2 NN) (by kernel_rfl) ct_Q_BandAt (cuts0 (fun _ => rfl) (by kernel_rfl)) (fun ps R K => by unfold LP_Q_BandAt_L2; split <;> (try unfold Q_BandAt_L2) <;> rfl) (s_Q_BandAt_L2 NN)
theorem sm_Q_BandAt (g : Nat) : Same (SS_Q_BandAt (@Q_BandAt_ g)) (abody (E_Q_BandAt g) Tryz.f67 code_67 1 [] [.asis] g) := by intro args; unfold SS_Q_BandAt; split; exact .inr fun R k => (by kernel_rfl); exact .inl fun R k => rfl
theorem ok_Q_BandAt [Fuel] : Ok 67 (SS_Q_BandAt (@Q_BandAt _)) := okF_of std .nil ⟨rfl, rfl, by kernel_rfl, rfl, rfl, rfl⟩ (sm_Q_BandAt NN) (cutsL (fun _ => rfl) (.cons lf_Q_BandAt_L2 .nil) (by kernel_rfl)) Tryz.func67 (by kernel_rfl) (by kernel_rfl)
abbrev T_z81z : Type 1 := G_Spot → Int → Int → List G_Band → {R : Type} → (Bool → Int → Int → Option R) → Option R
structure C_z81z where
 N : Nat
 Q_BandAt : T_Q_BandAt
def z81z_ (g : C_z81z) (a1 : G_Spot) (a2 a3 : Int) (a4 : List G_Band) {R : Type} (k0 : Bool → Int → Int → Option R) : Option R :=
 (bif (decide ((w64 (a2 - a3)) < a1.f_At)) then (bif (decide (a1.f_At ≤ a2)) then (g.Q_BandAt a4 a1.f_Hertz (fun r5 => k0 (!(r5 == [])) a2 a3)) else k0 false a2 a3) else k0 false a2 a3)
noncomputable def I_z81z [Fuel] : C_z81z := ⟨NN, @Q_BandAt _⟩
noncomputable def z81z [Fuel] : T_z81z := @z81z_ I_z81z
def SS_z81z (g : T_z81z) : Spec A := fun args => match args with | [.agg [.d (.int .i64 a1), .d (.int .i64 a2), .d (.str a3), .d (.str a4)], .box [.d (.int .i64 a5)], .box [.d (.int .i64 a6)], .cel [.sl 69 a7] 0] => fun k => g ⟨a1, a2, a3, a4⟩ a5 a6 a7 (fun z0 z1 z2 => k (.d (.bool z0)) [.undef, .box [.d (.int .i64 z1)], .box [.d (.int .i64 z2)], .undef]) | _ => fun _ => none
noncomputable def code_80 : Code := (Tryz.f80.body).getD .skip
noncomputable def E_z81z (g : C_z81z) : Env A := mkE [(67, SS_Q_BandAt g.Q_BandAt)] [(4, [2])] [] [] [] [] [] [] [] [1, 2]
theorem sm_z81z (g : C_z81z) : Same (SS_z81z (@z81z_ g)) (abody (E_z81z g) Tryz.f80 code_80 3 [0, 1] [.asis] g.N) := by intro args; unfold SS_z81z; split; exact .inr fun R k => (by kernel_rfl); exact .inl fun R k => rfl
theorem ok_z81z [Fuel] : Ok 80 (SS_z81z (@z81z _)) := okF_of std (.cons ok_Q_BandAt .nil) ⟨rfl, rfl, by kernel_rfl, rfl, rfl, rfl⟩ (sm_z81z I_z81z) (cuts0 (fun _ => rfl) (by kernel_rfl)) Tryz.func80 (by kernel_rfl) (by kernel_rfl)
abbrev T_z49z : Type 1 := G_Spot → Int → Int → List G_Band → G_Spot → List G_Band → {R : Type} → (Bool → Int → Int → List G_Band → G_Spot → Option R) → Option R
structure C_z49z where
 N : Nat
 Q_BandAt : T_Q_BandAt
 z81z : T_z81z
def z49z_ (g : C_z49z) (a1 : G_Spot) (a2 a3 : Int) (a4 : List G_Band) (a5 : G_Spot) (a6 : List G_Band) {R : Type} (k0 : Bool → Int → Int → List G_Band → G_Spot → Option R) : Option R :=
 (g.z81z a1 a2 a3 a4 (fun r7 r8 r9 => (bif r7 then (bif (a1.f_Call == a5.f_Call) then (g.Q_BandAt a6 a1.f_Hertz (fun r10 => (g.Q_BandAt a6 a5.f_Hertz (fun r11 => k0 (r10 == r11) r8 r9 a4 a5)))) else k0 false r8 r9 a4 a5) else k0 false r8 r9 a4 a5)))
noncomputable def I_z49z [Fuel] : C_z49z := ⟨NN, @Q_BandAt _, @z81z _⟩
noncomputable def z49z [Fuel] : T_z49z := @z49z_ I_z49z
def SS_z49z (g : T_z49z) : Spec A := fun args => match args with | [.agg [.d (.int .i64 a1), .d (.int .i64 a2), .d (.str a3), .d (.str a4)], .box [.fn 80 [.box [.d (.int .i64 a5)], .box [.d (.int .i64 a6)], .cel [.sl 69 a7] 0]], .box [.d (.int .i64 a8), .d (.int .i64 a9), .d (.str a10), .d (.str a11)], .cel [.sl 69 a12] 0] => fun k => g ⟨a1, a2, a3, a4⟩ a5 a6 a7 ⟨a8, a9, a10, a11⟩ a12 (fun z0 z1 z2 z3 z4 => k (.d (.bool z0)) [.undef, .box [.fn 80 [.box [.d (.int .i64 z1)], .box [.d (.int .i64 z2)], .cel [.sl 69 z3] 0]], .box [.d (.int .i64 z4.f_At), .d (.int .i64 z4.f_Hertz), .d (.str z4.f_Call), .d (.str z4.f_By)], .undef]) | _ => fun _ => none
noncomputable def code_82 : Code := (Tryz.f82.body).getD .skip
noncomputable def E_z49z (g : C_z49z) : Env A := mkE [(67, SS_Q_BandAt g.Q_BandAt), (80, SS_z81z g.z81z)] [(4, [4])] [] [] [] [] [] [] [] [1, 2]
theorem sm_z49z (g : C_z49z) : Same (SS_z49z (@z49z_ g)) (abody (E_z49z g) Tryz.f82 code_82 5 [0, 1, 2, 3] [.asis] g.N) := by intro args; unfold SS_z49z; split; exact .inr fun R k => (by kernel_rfl); exact .inl fun R k => rfl
theorem ok_z49z [Fuel] : Ok 82 (SS_z49z (@z49z _)) := okF_of std (.cons ok_Q_BandAt (.cons ok_z81z .nil)) ⟨rfl, rfl, by kernel_rfl, rfl, rfl, rfl⟩ (sm_z49z I_z49z) (cuts0 (fun _ => rfl) (by kernel_rfl)) Tryz.func82 (by kernel_rfl) (by kernel_rfl)
abbrev T_z1z : Type 1 := List G_Spot → Int → Int → List G_Band → G_Spot → List G_Band → {R : Type} → (Int → Int → Int → List G_Band → G_Spot → List G_Band → Option R) → Option R
structure C_z1z where
 N : Nat
 z49z : T_z49z
def z1z_L2 (g : C_z1z) : Nat → List G_Spot → List G_Band → Int → Int → List G_Band → Int → Int → G_Spot → {R : Type} → (List G_Band → Int → List G_Band → G_Spot → Int → Int → Option R) → (List G_Band → List G_Band → Int → Int → G_Spot → Option R) → Option R
 | 0, _, _, _, _, _, _, _, _, _, _, _ => none
 | n + 1, v7, v8, v9, v10, v11, v12, v13, v14, _, e0, e1 => (bif (decide (v10 < v9)) then (get_ v7 v10 fun x21 => (g.z49z x21 v12 v13 v11 v14 v8 (fun r22 r23 r24 r25 r26 => (bif r22 then e0 v8 v10 r25 r26 r23 r24 else none)))) else e1 v8 v11 v12 v13 v14)
def z1z_ (g : C_z1z) (a1 : List G_Spot) (a2 a3 : Int) (a4 : List G_Band) (a5 : G_Spot) (a6 : List G_Band) {R : Type} (k0 : Int → Int → Int → List G_Band → G_Spot → List G_Band → Option R) : Option R :=
 (z1z_L2 g g.N a1 a6 (a1.length : Int) 0 a4 a2 a3 a5 (fun e27 e28 e29 e30 e31 e32 => k0 e28 e31 e32 e29 e30 e27) (fun e33 e34 e35 e36 e37 => k0 (-1) e35 e36 e34 e37 e33))
noncomputable def I_z1z [Fuel] : C_z1z := ⟨NN, @z49z _⟩
noncomputable def z1z [Fuel] : T_z1z := @z1z_ I_z1z
def SS_z1z (g : T_z1z) : Spec A := fun args => match args with | [.d (.sl 52 a1), .fn 82 [.box [.fn 80 [.box [.d (.int .i64 a2)], .box [.d (.int .i64 a3)], .cel [.sl 69 a4] 0]], .box [.d (.int .i64 a5), .d (.int .i64 a6), .d (.str a7), .d (.str a8)], .cel [.sl 69 a9] 0]] => fun k => g a1 a2 a3 a4 ⟨a5, a6, a7, a8⟩ a9 (fun z0 z1 z2 z3 z4 z5 => k (.d (.int .i64 z0)) [.undef, .fn 82 [.box [.fn 80 [.box [.d (.int .i64 z1)], .box [.d (.int .i64 z2)], .cel [.sl 69 z3] 0]], .box [.d (.int .i64 z4.f_At), .d (.int .i64 z4.f_Hertz), .d (.str z4.f_Call), .d (.str z4.f_By)], .cel [.sl 69 z5] 0]]) | _ => fun _ => none
def sh_z1z_L2 : SSt := mkSh 19 6 [(0, .sl 52), (1, .fn 82 [.ptr 0 0, .ptr 3 0, .cel [.sl 69] 0]), (7, .int .i64), (8, .int .i64)] [(0, .box [.fn 80 [.ptr 1 0, .ptr 2 0, .cel [.sl 69] 0]]), (1, .box [.int .i64]), (2, .box [.int .i64]), (3, .box [.int .i64, .int .i64, .str, .str])]
def LP_z1z_L2 (g : C_z1z) (n : Nat) : LPT A := fun ps => match ps with | [.d (.sl 52 p1), .d (.sl 69 p2), .d (.int .i64 p3), .d (.int .i64 p4), .d (.sl 69 p5), .d (.int .i64 p6), .d (.int .i64 p7), .d (.int .i64 p8), .d (.int .i64 p9), .d (.str p10), .d (.str p11)] => fun K => z1z_L2 g n p1 p2 p3 p4 p5 p6 p7 ⟨p8, p9, p10, p11⟩ (fun z0 z1 z2 z3 z4 z5 => K .ret (mkSt 19 6 [(1, .fn 82 [.ptr 0 0, .ptr 3 0, .cel [.sl 69 z0] 0]), (4, .d (.int .i64 z1))] [(0, some (.box [.fn 80 [.ptr 4 0, .ptr 5 0, .cel [.sl 69 z2] 0]])), (1, some (.gone (1, 0))), (2, some (.gone (1, 0))), (3, some (.box [.d (.int .i64 z3.f_At), .d (.int .i64 z3.f_Hertz), .d (.str z3.f_Call), .d (.str z3.f_By)])), (4, some (.box [.d (.int .i64 z4)])), (5, some (.box [.d (.int .i64 z5)]))])) (fun z0 z1 z2 z3 z4 => K (.exit 0) (mkSt 19 6 [(1, .fn 82 [.ptr 0 0, .ptr 3 0, .cel [.sl 69 z0] 0])] [(0, some (.box [.fn 80 [.ptr 1 0, .ptr 2 0, .cel [.sl 69 z1] 0]])), (1, some (.box [.d (.int .i64 z2)])), (2, some (.box [.d (.int .i64 z3)])), (3, some (.box [.d (.int .i64 z4.f_At), .d (.int .i64 z4.f_Hertz), .d (.str z4.f_Call), .d (.str z4.f_By)]))])) | _ => fun _ => none
noncomputable def code_110 : Code := (Tryz.f110.body).getD .skip
noncomputable def E_z1z (g : C_z1z) : Env A := mkE [(82, SS_z49z g.z49z)] [(16, [4, 5])] [(2, ⟨[0, 1, 7, 8], [], [0, 1, 2, 3], [], [], [], []⟩)] [(2, ⟨[1, 4], [], [0, 1, 2, 3, 4, 5], [], [], [], []⟩)] [(2, pieceOf sh_z1z_L2 (LP_z1z_L2 g g.N))] [] [] [] [] [1]
theorem ct_z1z [Fuel] : NatTab (E_z1z I_z1z).C := ct_of (P := Tryz.prog) (T := T) (.cons ok_z49z .nil) (by kernel_rfl)
noncomputable def cb_z1z_L2 : Code := sub [1, 0, 1, 0, 0] code_110
theorem s_z1z_L2 (g : C_z1z) (n : Nat) : StepOk (E_z1z g) g.N cb_z1z_L2 sh_z1z_L2 (LP_z1z_L2 g) n := by intro ps; unfold LP_z1z_L2; split; exact .inr fun R K => (by kernel_rfl); exact .inl fun R K => rfl
theorem lf_z1z_L2 [Fuel] : LoopFine (E_z1z I_z1z) NN cb_z1z_L2 := fine_loop sh_z1z_L2 (LP_z1z_L2 I_z1z) (by kernel_rfl) ct_z1z (cuts0 (fun _ => rfl) (by kernel_rfl)) (fun ps R K => by unfold LP_z1z_L2; split <;> (try unfold z1z_L2) <;> rfl) (s_z1z_L2 I_z1z)
theorem sm_z1z (g : C_z1z) : Same (SS_z1z (@z1z_ g)) (abody (E_z1z g) Tryz.f110 code_110 6 [0, 1, 2, 3] [.asis] g.N) := by intro args; unfold SS_z1z; split; exact .inr fun R k => (by kernel_rfl); exact .inl fun R k => rfl
theorem ok_z1z [Fuel] : Ok 110 (SS_z1z (@z1z _)) := okF_of std (.cons ok_z49z .nil) ⟨rfl, rfl, by kernel_rfl, rfl, rfl, rfl⟩ (sm_z1z I_z1z) (cutsL (fun _ => rfl) (.cons lf_z1z_L2 .nil) (by kernel_rfl)) Tryz.func110 (by kernel_rfl) (by kernel_rfl)
abbrev T_z14z : Type 1 := List G_Spot → Int → Int → List G_Band → G_Spot → List G_Band → {R : Type} → (Bool → Int → Int → List G_Band → G_Spot → List G_Band → Option R) → Option R
structure C_z14z where
 N : Nat
 z1z : T_z1z
def z14z_ (g : C_z14z) (a1 : List G_Spot) (a2 a3 : Int) (a4 : List G_Band) (a5 : G_Spot) (a6 : List G_Band) {R : Type} (k0 : Bool → Int → Int → List G_Band → G_Spot → List G_Band → Option R) : Option R :=
 (g.z1z a1 a2 a3 a4 a5 a6 (fun r7 r8 r9 r10 r11 r12 => k0 (decide (r7 ≥ 0)) r8 r9 r10 r11 a6))
noncomputable def I_z14z [Fuel] : C_z14z := ⟨NN, @z1z _⟩
noncomputable def z14z [Fuel] : T_z14z := @z14z_ I_z14z
def SS_z14z (g : T_z14z) : Spec A := fun args => match args with | [.d (.sl 52 a1), .fn 82 [.box [.fn 80 [.box [.d (.int .i64 a2)], .box [.d (.int .i64 a3)], .cel [.sl 69 a4] 0]], .box [.d (.int .i64 a5), .d (.int .i64 a6), .d (.str a7), .d (.str a8)], .cel [.sl 69 a9] 0]] => fun k => g a1 a2 a3 a4 ⟨a5, a6, a7, a8⟩ a9 (fun z0 z1 z2 z3 z4 z5 => k (.d (.bool z0)) [.undef, .fn 82 [.box [.fn 80 [.box [.d (.int .i64 z1)], .box [.d (.int .i64 z2)], .cel [.sl 69 z3] 0]], .box [.d (.int .i64 z4.f_At), .d (.int .i64 z4.f_Hertz), .d (.str z4.f_Call), .d (.str z4.f_By)], .cel [.sl 69 z5] 0]]) | _ => fun _ => none
noncomputable def code_81 : Code := (Tryz.f81.body).getD .skip
noncomputable def E_z14z (g : C_z14z) : Env A := mkE [(110, SS_z1z g.z1z)] [(7, [4, 5])] [] [] [] [] [] [] [(110, 0)] [1]
theorem sm_z14z (g : C_z14z) : Same (SS_z14z (@z14z_ g)) (abody (E_z14z g) Tryz.f81 code_81 6 [0, 1, 2, 3] [.asis] g.N) := by intro args; unfold SS_z14z; split; exact .inr fun R k => (by kernel_rfl); exact .inl fun R k => rfl
theorem ok_z14z [Fuel] : Ok 81 (SS_z14z (@z14z _)) := okF_of std (.cons ok_z1z .nil) ⟨rfl, rfl, by kernel_rfl, rfl, rfl, rfl⟩ (sm_z14z I_z14z) (cuts0 (fun _ => rfl) (by kernel_rfl)) Tryz.func81 (by kernel_rfl) (by kernel_rfl)
abbrev T_z58z : Type 1 := G_Spot → Int → Int → List G_Band → {R : Type} → (Bool → Option R) → Option R
structure C_z58z where
 N : Nat
 Q_BandAt : T_Q_BandAt
def z58z_ (g : C_z58z) (a1 : G_Spot) (a2 a3 : Int) (a4 : List G_Band) {R : Type} (k0 : Bool → Option R) : Option R :=
 (bif (decide ((w64 (a2 - a3)) < a1.f_At)) then (bif (decide (a1.f_At ≤ a2)) then (g.Q_BandAt a4 a1.f_Hertz (fun r5 => k0 (!(r5 == [])))) else k0 false) else k0 false)
noncomputable def I_z58z [Fuel] : C_z58z := ⟨NN, @Q_BandAt _⟩
noncomputable def z58z [Fuel] : T_z58z := @z58z_ I_z58z
def SS_z58z (g : T_z58z) : Spec A := fun args => match args with | [.agg [.d (.int .i64 a1), .d (.int .i64 a2), .d (.str a3), .d (.str a4)], .cel [.int .i64 a5] 0, .cel [.int .i64 a6] 0, .cel [.sl 69 a7] 0] => fun k => g ⟨a1, a2, a3, a4⟩ a5 a6 a7 (fun z0 => k (.d (.bool z0)) [.undef, .undef, .undef, .undef]) | _ => fun _ => none
noncomputable def E_z58z (g : C_z58z) : Env A := mkE [(67, SS_Q_BandAt g.Q_BandAt)] [(4, [0])] [] [] [] [] [] [] [] []
theorem sm_z58z (g : C_z58z) : Same (SS_z58z (@z58z_ g)) (abody (E_z58z g) Tryz.f80 code_80 1 [] [.asis] g.N) := by intro args; unfold SS_z58z; split; exact .inr fun R k => (by kernel_rfl); exact .inl fun R k => rfl
theorem ok_z58z [Fuel] : Ok 80 (SS_z58z (@z58z _)) := okF_of std (.cons ok_Q_BandAt .nil) ⟨rfl, rfl, by kernel_rfl, rfl, rfl, rfl⟩ (sm_z58z I_z58z) (cuts0 (fun _ => rfl) (by kernel_rfl)) Tryz.func80 (by kernel_rfl) (by kernel_rfl)
abbrev T_z40z : Type 1 := G_Spot → Int → Int → List G_Band → G_Spot → List G_Band → {R : Type} → (Bool → Int → Int → List G_Band → G_Spot → Option R) → Option R
structure C_z40z where
 N : Nat
 Q_BandAt : T_Q_BandAt
 z58z : T_z58z
def z40z_ (g : C_z40z) (a1 : G_Spot) (a2 a3 : Int) (a4 : List G_Band) (a5 : G_Spot) (a6 : List G_Band) {R : Type} (k0 : Bool → Int → Int → List G_Band → G_Spot → Option R) : Option R :=
 (g.z58z a1 a2 a3 a4 (fun r7 => (bif r7 then (bif (a1.f_Call == a5.f_Call) then (g.Q_BandAt a6 a1.f_Hertz (fun r8 => (g.Q_BandAt a6 a5.f_Hertz (fun r9 => k0 (r8 == r9) a2 a3 a4 a5)))) else k0 false a2 a3 a4 a5) else k0 false a2 a3 a4 a5)))
noncomputable def I_z40z [Fuel] : C_z40z := ⟨NN, @Q_BandAt _, @z58z _⟩
noncomputable def z40z [Fuel] : T_z40z := @z40z_ I_z40z
def SS_z40z (g : T_z40z) : Spec A := fun args => match args with | [.agg [.d (.int .i64 a1), .d (.int .i64 a2), .d (.str a3), .d (.str a4)], .box [.fn 80 [.cel [.int .i64 a5] 0, .cel [.int .i64 a6] 0, .cel [.sl 69 a7] 0]], .box [.d (.int .i64 a8), .d (.int .i64 a9), .d (.str a10), .d (.str a11)], .cel [.sl 69 a12] 0] => fun k => g ⟨a1, a2, a3, a4⟩ a5 a6 a7 ⟨a8, a9, a10, a11⟩ a12 (fun z0 z1 z2 z3 z4 => k (.d (.bool z0)) [.undef, .box [.fn 80 [.cel [.int .i64 z1] 0, .cel [.int .i64 z2] 0, .cel [.sl 69 z3] 0]], .box [.d (.int .i64 z4.f_At), .d (.int .i64 z4.f_Hertz), .d (.str z4.f_Call), .d (.str z4.f_By)], .undef]) | _ => fun _ => none
noncomputable def E_z40z (g : C_z40z) : Env A := mkE [(67, SS_Q_BandAt g.Q_BandAt), (80, SS_z58z g.z58z)] [(4, [2])] [] [] [] [] [] [] [] [1, 2]
theorem sm_z40z (g : C_z40z) : Same (SS_z40z (@z40z_ g)) (abody (E_z40z g) Tryz.f82 code_82 3 [0, 1] [.asis] g.N) := by intro args; unfold SS_z40z; split; exact .inr fun R k => (by kernel_rfl); exact .inl fun R k => rfl
theorem ok_z40z [Fuel] : Ok 82 (SS_z40z (@z40z _)) := okF_of std (.cons ok_Q_BandAt (.cons ok_z58z .nil)) ⟨rfl, rfl, by kernel_rfl, rfl, rfl, rfl⟩ (sm_z40z I_z40z) (cuts0 (fun _ => rfl) (by kernel_rfl)) Tryz.func82 (by kernel_rfl) (by kernel_rfl)
abbrev T_z11z : Type 1 := List G_Spot → Int → Int → List G_Band → G_Spot → List G_Band → {R : Type} → (Int → Int → Int → List G_Band → G_Spot → List G_Band → Option R) → Option R
structure C_z11z where
 N : Nat
 z40z : T_z40z
def z11z_L2 (g : C_z11z) : Nat → List G_Spot → List G_Band → Int → Int → Int → Int → List G_Band → G_Spot → {R : Type} → (List G_Band → Int → Int → Int → List G_Band → G_Spot → Option R) → (List G_Band → Int → Int → List G_Band → G_Spot → Option R) → Option R
 | 0, _, _, _, _, _, _, _, _, _, _, _ => none
 | n + 1, v7, v8, v9, v10, v11, v12, v13, v14, _, e0, e1 => (bif (decide (v10 < v9)) then (get_ v7 v10 fun x21 => (g.z40z x21 v11 v12 v13 v14 v8 (fun r22 r23 r24 r25 r26 => (bif r22 then e0 v8 v10 r23 r24 r25 r26 else z11z_L2 g n v7 v8 v9 (w64 (v10 + 1)) r23 r24 r25 r26 e0 e1)))) else e1 v8 v11 v12 v13 v14)
def z11z_ (g : C_z11z) (a1 : List G_Spot) (a2 a3 : Int) (a4 : List G_Band) (a5 : G_Spot) (a6 : List G_Band) {R : Type} (k0 : Int → Int → Int → List G_Band → G_Spot → List G_Band → Option R) : Option R :=
 (z11z_L2 g g.N a1 a6 (a1.length : Int) 0 a2 a3 a4 a5 (fun e27 e28 e29 e30 e31 e32 => k0 e28 e29 e30 e31 e32 e27) (fun e33 e34 e35 e36 e37 => k0 (-1) e34 e35 e36 e37 e33))
noncomputable def I_z11z [Fuel] : C_z11z := ⟨NN, @z40z _⟩
noncomputable def z11z [Fuel] : T_z11z := @z11z_ I_z11z
def SS_z11z (g : T_z11z) : Spec A := fun args => match args with | [.d (.sl 52 a1), .fn 82 [.box [.fn 80 [.cel [.int .i64 a2] 0, .cel [.int .i64 a3] 0, .cel [.sl 69 a4] 0]], .box [.d (.int .i64 a5), .d (.int .i64 a6), .d (.str a7), .d (.str a8)], .cel [.sl 69 a9] 0]] => fun k => g a1 a2 a3 a4 ⟨a5, a6, a7, a8⟩ a9 (fun z0 z1 z2 z3 z4 z5 => k (.d (.int .i64 z0)) [.undef, .fn 82 [.box [.fn 80 [.cel [.int .i64 z1] 0, .cel [.int .i64 z2] 0, .cel [.sl 69 z3] 0]], .box [.d (.int .i64 z4.f_At), .d (.int .i64 z4.f_Hertz), .d (.str z4.f_Call), .d (.str z4.f_By)], .cel [.sl 69 z5] 0]]) | _ => fun _ => none
def sh_z11z_L2 : SSt := mkSh 19 2 [(0, .sl 52), (1, .fn 82 [.ptr 0 0, .ptr 1 0, .cel [.sl 69] 0]), (7, .int .i64), (8, .int .i64)] [(0, .box [.fn 80 [.cel [.int .i64] 0, .cel [.int .i64] 0, .cel [.sl 69] 0]]), (1, .box [.int .i64, .int .i64, .str, .str])]
def LP_z11z_L2 (g : C_z11z) (n : Nat) : LPT A := fun ps => match ps with | [.d (.sl 52 p1), .d (.sl 69 p2), .d (.int .i64 p3), .d (.int .i64 p4), .d (.int .i64 p5), .d (.int .i64 p6), .d (.sl 69 p7), .d (.int .i64 p8), .d (.int .i64 p9), .d (.str p10), .d (.str p11)] => fun K => z11z_L2 g n p1 p2 p3 p4 p5 p6 p7 ⟨p8, p9, p10, p11⟩ (fun z0 z1 z2 z3 z4 z5 => K .ret (mkSt 19 2 [(1, .fn 82 [.ptr 0 0, .ptr 1 0, .cel [.sl 69 z0] 0]), (4, .d (.int .i64 z1))] [(0, some (.box [.fn 80 [.cel [.int .i64 z2] 0, .cel [.int .i64 z3] 0, .cel [.sl 69 z4] 0]])), (1, some (.box [.d (.int .i64 z5.f_At), .d (.int .i64 z5.f_Hertz), .d (.str z5.f_Call), .d (.str z5.f_By)]))])) (fun z0 z1 z2 z3 z4 => K (.exit 0) (mkSt 19 2 [(1, .fn 82 [.ptr 0 0, .ptr 1 0, .cel [.sl 69 z0] 0])] [(0, some (.box [.fn 80 [.cel [.int .i64 z1] 0, .cel [.int .i64 z2] 0, .cel [.sl 69 z3] 0]])), (1, some (.box [.d (.int .i64 z4.f_At), .d (.int .i64 z4.f_Hertz), .d (.str z4.f_Call), .d (.str z4.f_By)]))])) | _ => fun _ => none
noncomputable def E_z11z (g : C_z11z) : Env A := mkE [(82, SS_z40z g.z40z)] [] [(2, ⟨[0, 1, 7, 8], [], [0, 1], [], [], [], []⟩)] [(2, ⟨[1, 4], [], [0, 1], [], [], [], []⟩)] [(2, pieceOf sh_z11z_L2 (LP_z11z_L2 g g.N))] [] [] [] [] [1]
theorem ct_z11z [Fuel] : NatTab (E_z11z I_z11z).C := ct_of (P := Tryz.prog) (T := T) (.cons ok_z40z .nil) (by kernel_rfl)
noncomputable def cb_z11z_L2 : Code := sub [1, 0, 1, 0, 0] code_110
theorem s_z11z_L2 (g : C_z11z) (n : Nat) : StepOk (E_z11z g) g.N cb_z11z_L2 sh_z11z_L2 (LP_z11z_L2 g) n := by intro ps; unfold LP_z11z_L2; split; exact .inr fun R K => (by kernel_rfl); exact .inl fun R K => rfl
theorem lf_z11z_L2 [Fuel] : LoopFine (E_z11z I_z11z) NN cb_z11z_L2 := fine_loop sh_z11z_L2 (LP_z11z_L2 I_z11z) (by kernel_rfl) ct_z11z (cuts0 (fun _ => rfl) (by kernel_rfl)) (fun ps R K => by unfold LP_z11z_L2; split <;> (try unfold z11z_L2) <;> rfl) (s_z11z_L2 I_z11z)
theorem sm_z11z (g : C_z11z) : Same (SS_z11z (@z11z_ g)) (abody (E_z11z g) Tryz.f110 code_110 2 [0, 1] [.asis] g.N) := by intro args; unfold SS_z11z; split; exact .inr fun R k => (by kernel_rfl); exact .inl fun R k => rfl
theorem ok_z11z [Fuel] : Ok 110 (SS_z11z (@z11z _)) := okF_of std (.cons ok_z40z .nil) ⟨rfl, rfl, by kernel_rfl, rfl, rfl, rfl⟩ (sm_z11z I_z11z) (cutsL (fun _ => rfl) (.cons lf_z11z_L2 .nil) (by kernel_rfl)) Tryz.func110 (by kernel_rfl) (by kernel_rfl)
abbrev T_z27z : Type 1 := List G_Spot → Int → Int → List G_Band → G_Spot → List G_Band → {R : Type} → (Bool → Int → Int → List G_Band → G_Spot → List G_Band → Option R) → Option R
structure C_z27z where
 N : Nat
 z11z : T_z11z
def z27z_ (g : C_z27z) (a1 : List G_Spot) (a2 a3 : Int) (a4 : List G_Band) (a5 : G_Spot) (a6 : List G_Band) {R : Type} (k0 : Bool → Int → Int → List G_Band → G_Spot → List G_Band → Option R) : Option R :=
 (g.z11z a1 a2 a3 a4 a5 a6 (fun r7 r8 r9 r10 r11 r12 => k0 (decide (r7 ≥ 0)) r8 r9 r10 r11 a6))
noncomputable def I_z27z [Fuel] : C_z27z := ⟨NN, @z11z _⟩
noncomputable def z27z [Fuel] : T_z27z := @z27z_ I_z27z
def SS_z27z (g : T_z27z) : Spec A := fun args => match args with | [.d (.sl 52 a1), .fn 82 [.box [.fn 80 [.cel [.int .i64 a2] 0, .cel [.int .i64 a3] 0, .cel [.sl 69 a4] 0]], .box [.d (.int .i64 a5), .d (.int .i64 a6), .d (.str a7), .d (.str a8)], .cel [.sl 69 a9] 0]] => fun k => g a1 a2 a3 a4 ⟨a5, a6, a7, a8⟩ a9 (fun z0 z1 z2 z3 z4 z5 => k (.d (.bool z0)) [.undef, .fn 82 [.box [.fn 80 [.cel [.int .i64 z1] 0, .cel [.int .i64 z2] 0, .cel [.sl 69 z3] 0]], .box [.d (.int .i64 z4.f_At), .d (.int .i64 z4.f_Hertz), .d (.str z4.f_Call), .d (.str z4.f_By)], .cel [.sl 69 z5] 0]]) | _ => fun _ => none
noncomputable def E_z27z (g : C_z27z) : Env A := mkE [(110, SS_z11z g.z11z)] [] [] [] [] [] [] [] [(110, 0)] [1]
theorem sm_z27z (g : C_z27z) : Same (SS_z27z (@z27z_ g)) (abody (E_z27z g) Tryz.f81 code_81 2 [0, 1] [.asis] g.N) := by intro args; unfold SS_z27z; split; exact .inr fun R k => (by kernel_rfl); exact .inl fun R k => rfl
theorem ok_z27z [Fuel] : Ok 81 (SS_z27z (@z27z _)) := okF_of std (.cons ok_z11z .nil) ⟨rfl, rfl, by kernel_rfl, rfl, rfl, rfl⟩ (sm_z27z I_z27z) (cuts0 (fun _ => rfl) (by kernel_rfl)) Tryz.func81 (by kernel_rfl) (by kernel_rfl)
abbrev T_z0z : Type 1 := List G_Band → List G_Spot → Int → Int → {R : Type} → (List G_Spot → Option R) → Option R
structure C_z0z where
 N : Nat
 z58z : T_z58z
 z27z : T_z27z
def z0z_L3 (g : C_z0z) : Nat → List G_Spot → List G_Band → Int → Int → List G_Spot → Int → Int → List G_Spot → {R : Type} → (List G_Spot → Option R) → Option R
 | 0, _, _, _, _, _, _, _, _, _, _ => none
 | n + 1, v5, v6, v7, v8, v9, v10, v11, v12, _, e0 => (bif (decide (v11 < v10)) then (get_ v9 v11 fun x21 => (bif (decide (0 ≤ (w64 (v11 + 1))) && decide ((w64 (v11 + 1)) ≤ (v5.length : Int))) then (g.z27z (v5.drop ((w64 (v11 + 1)) : Int).toNat) v8 v7 v6 x21 v6 (fun r22 r23 r24 r25 r26 r27 => (g.z58z r26 r23 r24 r25 (fun r28 => (bif r28 then (bif (!r22) then (bif (decide ((v12.length + [r26].length) * 48 ≤ roomBytes')) then z0z_L3 g n v5 v6 v7 v8 v9 v10 (w64 (v11 + 1)) (v12 ++ [r26]) e0 else none) else z0z_L3 g n v5 v6 v7 v8 v9 v10 (w64 (v11 + 1)) v12 e0) else z0z_L3 g n v5 v6 v7 v8 v9 v10 (w64 (v11 + 1)) v12 e0))))) else none)) else e0 v12)
def z0z_ (g : C_z0z) (a1 : List G_Band) (a2 : List G_Spot) (a3 a4 : Int) {R : Type} (k0 : List G_Spot → Option R) : Option R :=
 (z0z_L3 g g.N a2 a1 a3 a4 a2 (a2.length : Int) 0 [] (fun e29 => k0 e29))
noncomputable def I_z0z [Fuel] : C_z0z := ⟨NN, @z58z _, @z27z _⟩
noncomputable def z0z [Fuel] : T_z0z := @z0z_ I_z0z
def SS_z0z (g : T_z0z) : Spec A := fun args => match args with | [.d (.sl 69 a1), .d (.sl 52 a2), .d (.int .i64 a3), .d (.int .i64 a4)] => fun k => g a1 a2 a3 a4 (fun z0 => k (.arr 52 z0) [.undef, .undef, .undef, .undef]) | _ => fun _ => none
def sh_z0z_L3 : SSt := mkSh 41 8 [(1, .sl 52), (4, .cel [.sl 69] 0), (6, .cel [.int .i64] 0), (7, .cel [.int .i64] 0), (9, .own 52 3), (14, .sl 52), (15, .int .i64), (16, .int .i64)] [(3, .row 52)]
def LP_z0z_L3 (g : C_z0z) (n : Nat) : LPT A := fun ps => match ps with | [.d (.sl 52 p1), .d (.sl 69 p2), .d (.int .i64 p3), .d (.int .i64 p4), .d (.sl 52 p5), .d (.int .i64 p6), .d (.int .i64 p7), .d (.sl 52 p8)] => fun K => z0z_L3 g n p1 p2 p3 p4 p5 p6 p7 p8 (fun z0 => K (.exit 0) (mkSt 41 8 [(9, .own 52 3)] [(3, some (.row 52 z0))])) | _ => fun _ => none
noncomputable def code_29 : Code := (Tryz.f29.body).getD .skip
noncomputable def E_z0z (g : C_z0z) : Env A := mkE [(80, SS_z58z g.z58z), (81, SS_z27z g.z27z)] [(4, [0]), (6, [1]), (7, [2]), (11, [4]), (12, [5]), (37, [6]), (38, [7])] [(3, ⟨[1, 4, 6, 7, 9, 14, 15, 16], [(9, 52, 3)], [], [], [], [], [0, 1, 2]⟩)] [(3, ⟨[9], [], [3], [], [], [], []⟩)] [(3, pieceOf sh_z0z_L3 (LP_z0z_L3 g g.N))] [] [] [] [] []
theorem ct_z0z [Fuel] : NatTab (E_z0z I_z0z).C := ct_of (P := Tryz.prog) (T := T) (.cons ok_z58z (.cons ok_z27z .nil)) (by kernel_rfl)
noncomputable def cb_z0z_L3 : Code := sub [1, 1, 0, 1, 0, 0] code_29
theorem s_z0z_L3 (g : C_z0z) (n : Nat) : StepOk (E_z0z g) g.N cb_z0z_L3 sh_z0z_L3 (LP_z0z_L3 g) n := by intro ps; unfold LP_z0z_L3; split; exact .inr fun R K => (by kernel_rfl); exact .inl fun R K => rfl
theorem lf_z0z_L3 [Fuel] : LoopFine (E_z0z I_z0z) NN cb_z0z_L3 := fine_loop sh_z0z_L3 (LP_z0z_L3 I_z0z) (by kernel_rfl) ct_z0z (cuts0 (fun _ => rfl) (by kernel_rfl)) (fun ps R K => by unfold LP_z0z_L3; split <;> (try unfold z0z_L3) <;> rfl) (s_z0z_L3 I_z0z)
theorem sm_z0z (g : C_z0z) : Same (SS_z0z (@z0z_ g)) (abody (E_z0z g) Tryz.f29 code_29 8 [] [.arr 52] g.N) := by intro args; unfold SS_z0z; split; exact .inr fun R k => (by kernel_rfl); exact .inl fun R k => rfl
theorem ok_z0z [Fuel] : Ok 29 (SS_z0z (@z0z _)) := okF_of std (.cons ok_z58z (.cons ok_z27z .nil)) ⟨rfl, rfl, by kernel_rfl, rfl, rfl, rfl⟩ (sm_z0z I_z0z) (cutsL (fun _ => rfl) (.cons lf_z0z_L3 .nil) (by kernel_rfl)) Tryz.func29 (by kernel_rfl) (by kernel_rfl)
abbrev T_Q_sign : Type 1 := Int → {R : Type} → (Int → Option R) → Option R
def Q_sign_ (g : Nat) (a1 : Int) {R : Type} (k0 : Int → Option R) : Option R :=
 (bif (decide (a1 < 0)) then k0 (-1) else (bif (decide (a1 > 0)) then k0 1 else k0 0))
noncomputable def Q_sign [Fuel] : T_Q_sign := @Q_sign_ NN
def SS_Q_sign (g : T_Q_sign) : Spec A := fun args => match args with | [.d (.int .i64 a1)] => fun k => g a1 (fun z0 => k (.d (.int .i64 z0)) [.undef]) | _ => fun _ => none
noncomputable def code_70 : Code := (Tryz.f70.body).getD .skip
noncomputable def E_Q_sign (g : Nat) : Env A := mkE [] [] [] [] [] [] [] [] [] []
theorem sm_Q_sign (g : Nat) : Same (SS_Q_sign (@Q_sign_ g)) (abody (E_Q_sign g) Tryz.f70 code_70 0 [] [.asis] g) := by intro args; unfold SS_Q_sign; split; exact .inr fun R k => (by kernel_rfl); exact .inl fun R k => rfl
theorem ok_Q_sign [Fuel] : Ok 70 (SS_Q_sign (@Q_sign _)) := okF_of std .nil ⟨rfl, rfl, by kernel_rfl, rfl, rfl, rfl⟩ (sm_Q_sign NN) (cuts0 (fun _ => rfl) (by kernel_rfl)) Tryz.func70 (by kernel_rfl) (by kernel_rfl)
abbrev T_z12z : Type 1 := G_Pair → G_Pair → List (List UInt8 × Int) → {R : Type} → (Int → List (List UInt8 × Int) → Option R) → Option R
structure C_z12z where
 N : Nat
 Q_sign : T_Q_sign
def z12z_ (g : C_z12z) (a1 a2 : G_Pair) (a3 : List (List UInt8 × Int)) {R : Type} (k0 : Int → List (List UInt8 × Int) → Option R) : Option R :=
 (g.Q_sign (w64 (((mget_string_int a2.f_Name a3).getD 0) - ((mget_string_int a1.f_Name a3).getD 0))) (fun r4 => k0 r4 a3))
noncomputable def I_z12z [Fuel] : C_z12z := ⟨NN, @Q_sign _⟩
noncomputable def z12z [Fuel] : T_z12z := @z12z_ I_z12z
def SS_z12z (g : T_z12z) : Spec A := fun args => match args with | [.agg [.d (.str a1), .d (.str a2)], .agg [.d (.str a3), .d (.str a4)], .box [.mp 9 3 a5]] => fun k => g ⟨a1, a2⟩ ⟨a3, a4⟩ a5 (fun z0 z1 => k (.d (.int .i64 z0)) [.undef, .undef, .box [.mp 9 3 z1]]) | _ => fun _ => none
noncomputable def code_84 : Code := (Tryz.f84.body).getD .skip
noncomputable def E_z12z (g : C_z12z) : Env A := mkE [(70, SS_Q_sign g.Q_sign)] [(3, [2]), (4, [3])] [] [] [] [] [] [] [] [2]
theorem sm_z12z (g : C_z12z) : Same (SS_z12z (@z12z_ g)) (abody (E_z12z g) Tryz.f84 code_84 4 [0, 1] [.asis] g.N) := by intro args; unfold SS_z12z; split; exact .inr fun R k => (by kernel_rfl); exact .inl fun R k => rfl
theorem ok_z12z [Fuel] : Ok 84 (SS_z12z (@z12z _)) := okF_of std (.cons ok_Q_sign .nil) ⟨rfl, rfl, by kernel_rfl, rfl, rfl, rfl⟩ (sm_z12z I_z12z) (cuts0 (fun _ => rfl) (by kernel_rfl)) Tryz.func84 (by kernel_rfl) (by kernel_rfl)
end Go.Am
