/- The functions of the program as Lean functions, each shown to be what the code computes, part 8. No condition: lemmas for the claim. -/
import Derived.Test.YtnlblmnoiepeaaaGreatDoorF0
import Derived.Test.YtnlblmnoiepeaaaGreatDoorFSh
import Derived.Test.YtnlblmnoiepeaaaGreatDoorF2
import Derived.Test.YtnlblmnoiepeaaaGreatDoorF5
import Derived.Test.YtnlblmnoiepeaaaGreatDoorF6
import Derived.Test.YtnlblmnoiepeaaaGreatDoorF7
set_option linter.unusedVariables false
set_option maxRecDepth 100000
namespace Go.Am
open Go Go.Proofs
abbrev T_z0z : Type 1 := List G_Spot → Int → Int → {R : Type} → (List G_Spot → Int → Option R) → Option R
structure C_z0z where
 N : Nat
 z1z : T_z1z
def z0z_L2 (g : C_z0z) : Nat → Int → Int → Int → Int → List G_Spot → Int → {R : Type} → (Int → Int → Int → List G_Spot → Int → Option R) → Option R
 | 0, _, _, _, _, _, _, _, _ => none
 | n + 1, v4, v5, v6, v7, v8, v9, _, e0 => (bif (decide (v7 ≤ v4)) then (g.z1z v8 v6 v7 v9 (fun r12 r13 => z0z_L2 g n v4 v5 v7 (w64 (v7 + v5)) r12 r13 e0)) else e0 v4 v5 v6 v8 v9)
def z0z_L9 (g : C_z0z) : Nat → Int → Int → Int → Int → List G_Spot → Int → {R : Type} → (Int → Int → Int → List G_Spot → Int → Option R) → Option R
 | 0, _, _, _, _, _, _, _, _ => none
 | n + 1, v36, v37, v38, v39, v40, v41, _, e0 => (bif (decide (v39 ≤ v36)) then none else e0 v36 v37 v38 v40 v41)
def z0z_L7 (g : C_z0z) : Nat → Int → Int → List G_Spot → Int → {R : Type} → (List G_Spot → Int → Option R) → Option R
 | 0, _, _, _, _, _, _ => none
 | n + 1, v21, v22, v23, v24, _, e0 => (bif (decide (v22 < v21)) then (z0z_L9 g g.N v21 v22 0 (w64 (2 * v22)) v23 v24 (fun e42 e43 e44 e45 e46 => (bif (decide ((w64 (e44 + e43)) < e42)) then none else z0z_L7 g n e42 (w64 (e43 * 2)) e45 e46 e0))) else e0 v23 v24)
def z0z_ (g : C_z0z) (a1 : List G_Spot) (a2 a3 : Int) {R : Type} (k0 : List G_Spot → Int → Option R) : Option R :=
 (z0z_L2 g g.N a2 20 0 20 a1 a3 (fun e14 e15 e16 e17 e18 => (g.z1z e17 e16 e14 e18 (fun r19 r20 => (z0z_L7 g g.N e14 e15 r19 r20 (fun e47 e48 => k0 e47 e48))))))
noncomputable def I_z0z [Fuel] : C_z0z := ⟨NN, @z1z _⟩
noncomputable def z0z [Fuel] : T_z0z := @z0z_ I_z0z
def SS_z0z (g : T_z0z) : Spec A := fun args => match args with | [.arr 42 a1, .d (.int .i64 a2), .fn 39 [.box [.fn 37 [.cel [.int .i64 a3] 0]]]] => fun k => g a1 a2 a3 (fun z0 z1 => k (.tup []) [.arr 42 z0, .undef, .fn 39 [.box [.fn 37 [.cel [.int .i64 z1] 0]]]]) | _ => fun _ => none
def sh_z0z_L2 : SSt := mkSh 63 2 [(0, .own 42 0), (1, .int .i64), (2, .fn 39 [.ptr 1 0]), (6, .int .i64), (7, .int .i64), (8, .int .i64)] [(0, .row 42), (1, .box [.fn 37 [.cel [.int .i64] 0]])]
def LP_z0z_L2 (g : C_z0z) (n : Nat) : LPT A := fun ps => match ps with | [.d (.int .i64 p1), .d (.int .i64 p2), .d (.int .i64 p3), .d (.int .i64 p4), .d (.sl 42 p5), .d (.int .i64 p6)] => fun K => z0z_L2 g n p1 p2 p3 p4 p5 p6 (fun z0 z1 z2 z3 z4 => K (.exit 0) (mkSt 63 2 [(0, .own 42 0), (1, .d (.int .i64 z0)), (2, .fn 39 [.ptr 1 0]), (6, .d (.int .i64 z1)), (7, .d (.int .i64 z2))] [(0, some (.row 42 z3)), (1, some (.box [.fn 37 [.cel [.int .i64 z4] 0]]))])) | _ => fun _ => none
def sh_z0z_L9 : SSt := mkSh 63 2 [(0, .own 42 0), (1, .int .i64), (2, .fn 39 [.ptr 1 0]), (6, .int .i64), (7, .int .i64), (8, .int .i64)] [(0, .row 42), (1, .box [.fn 37 [.cel [.int .i64] 0]])]
def LP_z0z_L9 (g : C_z0z) (n : Nat) : LPT A := fun ps => match ps with | [.d (.int .i64 p1), .d (.int .i64 p2), .d (.int .i64 p3), .d (.int .i64 p4), .d (.sl 42 p5), .d (.int .i64 p6)] => fun K => z0z_L9 g n p1 p2 p3 p4 p5 p6 (fun z0 z1 z2 z3 z4 => K (.exit 4) (mkSt 63 2 [(0, .own 42 0), (1, .d (.int .i64 z0)), (2, .fn 39 [.ptr 1 0]), (6, .d (.int .i64 z1)), (7, .d (.int .i64 z2))] [(0, some (.row 42 z3)), (1, some (.box [.fn 37 [.cel [.int .i64 z4] 0]]))])) | _ => fun _ => none
def sh_z0z_L7 : SSt := mkSh 63 2 [(0, .own 42 0), (1, .int .i64), (2, .fn 39 [.ptr 1 0]), (6, .int .i64)] [(0, .row 42), (1, .box [.fn 37 [.cel [.int .i64] 0]])]
def LP_z0z_L7 (g : C_z0z) (n : Nat) : LPT A := fun ps => match ps with | [.d (.int .i64 p1), .d (.int .i64 p2), .d (.sl 42 p3), .d (.int .i64 p4)] => fun K => z0z_L7 g n p1 p2 p3 p4 (fun z0 z1 => K (.exit 2) (mkSt 63 2 [(0, .own 42 0), (2, .fn 39 [.ptr 1 0])] [(0, some (.row 42 z0)), (1, some (.box [.fn 37 [.cel [.int .i64 z1] 0]]))])) | _ => fun _ => none
noncomputable def E_z0z (g : C_z0z) : Env A := mkE [(128, SS_z1z g.z1z)] [] [(2, ⟨[0, 1, 2, 6, 7, 8], [], [0, 1], [], [], [], []⟩), (9, ⟨[0, 1, 2, 6, 7, 8], [], [0, 1], [], [], [], []⟩), (7, ⟨[0, 1, 2, 6], [], [0, 1], [], [], [], []⟩)] [(2, ⟨[0, 1, 2, 6, 7], [], [0, 1], [], [], [], []⟩), (9, ⟨[0, 1, 2, 6, 7], [], [0, 1], [], [], [], []⟩), (7, ⟨[0, 2], [], [0, 1], [], [], [], []⟩)] [(2, pieceOf sh_z0z_L2 (LP_z0z_L2 g g.N)), (9, pieceOf sh_z0z_L9 (LP_z0z_L9 g g.N)), (7, pieceOf sh_z0z_L7 (LP_z0z_L7 g g.N))] [] [] [] [(128, 0)] [0, 2]
theorem ct_z0z [Fuel] : NatTab (E_z0z I_z0z).C := ct_of (P := Tryz.prog) (T := T) (.cons ok_z1z .nil) (by kernel_rfl)
noncomputable def cb_z0z_L2 : Code := sub [1, 1, 0, 0, 0] code_79
theorem s_z0z_L2 (g : C_z0z) (n : Nat) : StepOk (E_z0z g) g.N cb_z0z_L2 sh_z0z_L2 (LP_z0z_L2 g) n := by intro ps; unfold LP_z0z_L2; split; exact .inr fun R K => (by kernel_rfl); exact .inl fun R K => rfl
theorem lf_z0z_L2 [Fuel] : LoopFine (E_z0z I_z0z) NN cb_z0z_L2 := fine_loop sh_z0z_L2 (LP_z0z_L2 I_z0z) (by kernel_rfl) ct_z0z (cuts0 (fun _ => rfl) (by kernel_rfl)) (fun ps R K => by unfold LP_z0z_L2; split <;> (try unfold z0z_L2) <;> rfl) (s_z0z_L2 I_z0z)
noncomputable def cb_z0z_L9 : Code := sub [1, 1, 1, 1, 0, 0, 1, 0, 1, 0, 0, 0] code_79
theorem s_z0z_L9 (g : C_z0z) (n : Nat) : StepOk (E_z0z g) g.N cb_z0z_L9 sh_z0z_L9 (LP_z0z_L9 g) n := by intro ps; unfold LP_z0z_L9; split; exact .inr fun R K => (by kernel_rfl); exact .inl fun R K => rfl
theorem lf_z0z_L9 [Fuel] : LoopFine (E_z0z I_z0z) NN cb_z0z_L9 := fine_loop sh_z0z_L9 (LP_z0z_L9 I_z0z) (by kernel_rfl) ct_z0z (cuts0 (fun _ => rfl) (by kernel_rfl)) (fun ps R K => by unfold LP_z0z_L9; split <;> (try unfold z0z_L9) <;> rfl) (s_z0z_L9 I_z0z)
noncomputable def cb_z0z_L7 : Code := sub [1, 1, 1, 1, 0, 0] code_79
theorem s_z0z_L7 (g : C_z0z) (n : Nat) : StepOk (E_z0z g) g.N cb_z0z_L7 sh_z0z_L7 (LP_z0z_L7 g) n := by intro ps; unfold LP_z0z_L7; split; exact .inr fun R K => (by kernel_rfl); exact .inl fun R K => rfl
theorem lf_z0z_L7 [Fuel] : LoopFine (E_z0z I_z0z) NN cb_z0z_L7 := fine_loop sh_z0z_L7 (LP_z0z_L7 I_z0z) (by kernel_rfl) ct_z0z (cutsL (fun _ => rfl) (.cons lf_z0z_L9 .nil) (by kernel_rfl)) (fun ps R K => by unfold LP_z0z_L7; split <;> (try unfold z0z_L7) <;> rfl) (s_z0z_L7 I_z0z)
theorem sm_z0z (g : C_z0z) : Same (SS_z0z (@z0z_ g)) (abody (E_z0z g) Tryz.f79 code_79 2 [0, 1] [] g.N) := by intro args; unfold SS_z0z; split; exact .inr fun R k => (by kernel_rfl); exact .inl fun R k => rfl
theorem ok_z0z [Fuel] : Ok 79 (SS_z0z (@z0z _)) := okF_of std (.cons ok_z1z .nil) ⟨rfl, rfl, by kernel_rfl, rfl, rfl, rfl⟩ (sm_z0z I_z0z) (cutsL (fun _ => rfl) (.cons lf_z0z_L2 (.cons lf_z0z_L9 (.cons lf_z0z_L7 .nil))) (by kernel_rfl)) Tryz.func79 (by kernel_rfl) (by kernel_rfl)
abbrev T_z20z : Type 1 := List G_Spot → Int → {R : Type} → (List G_Spot → Int → Option R) → Option R
structure C_z20z where
 N : Nat
 z0z : T_z0z
def z20z_ (g : C_z20z) (a1 : List G_Spot) (a2 : Int) {R : Type} (k0 : List G_Spot → Int → Option R) : Option R :=
 (g.z0z a1 (a1.length : Int) a2 (fun r3 r4 => k0 r3 r4))
noncomputable def I_z20z [Fuel] : C_z20z := ⟨NN, @z0z _⟩
noncomputable def z20z [Fuel] : T_z20z := @z20z_ I_z20z
def SS_z20z (g : T_z20z) : Spec A := fun args => match args with | [.arr 42 a1, .fn 39 [.box [.fn 37 [.cel [.int .i64 a2] 0]]]] => fun k => g a1 a2 (fun z0 z1 => k (.tup []) [.arr 42 z0, .fn 39 [.box [.fn 37 [.cel [.int .i64 z1] 0]]]]) | _ => fun _ => none
noncomputable def E_z20z (g : C_z20z) : Env A := mkE [(79, SS_z0z g.z0z)] [] [] [] [] [] [] [] [(79, 0)] [0, 1]
theorem sm_z20z (g : C_z20z) : Same (SS_z20z (@z20z_ g)) (abody (E_z20z g) Tryz.f38 code_38 2 [0, 1] [] g.N) := by intro args; unfold SS_z20z; split; exact .inr fun R k => (by kernel_rfl); exact .inl fun R k => rfl
theorem ok_z20z [Fuel] : Ok 38 (SS_z20z (@z20z _)) := okF_of std (.cons ok_z0z .nil) ⟨rfl, rfl, by kernel_rfl, rfl, rfl, rfl⟩ (sm_z20z I_z20z) (cuts0 (fun _ => rfl) (by kernel_rfl)) Tryz.func38 (by kernel_rfl) (by kernel_rfl)
abbrev T_band_Worth : Type 1 := List G_Band → List G_Spot → List G_Contact → Int → Int → Int → Int → {R : Type} → (List G_Spot → Int → Option R) → Option R
structure C_band_Worth where
 N : Nat
 z73z : T_z73z
 z46z : T_z46z
 kit_IsMode : T_kit_IsMode
 z74z : T_z74z
 z75z : T_z75z
 band_heard : T_band_heard
 z20z : T_z20z
def band_Worth_L14 (g : C_band_Worth) : Nat → List G_Band → List G_Spot → Int → Int → Int → List G_Contact → Int → Int → Int → List (G_band_worked × Bool) → {R : Type} → (List G_Band → List G_Spot → Int → Int → Int → List (G_band_worked × Bool) → Option R) → Option R
 | 0, _, _, _, _, _, _, _, _, _, _, _, _ => none
 | n + 1, v12, v13, v14, v15, v16, v17, v18, v19, v20, v21, _, e0 => (bif (decide (v19 < v18)) then (get_ v17 v19 fun x24 => (bif (decide (x24.f_At ≤ v16)) then (bif (x24.f_Mode == v14) then (g.z75z x24.f_Call (fun r25 => band_Worth_L14 g n v12 v13 v14 v15 v16 v17 v18 (w64 (v19 + 1)) v20 (mset_band_worked_bool (⟨r25, x24.f_Band⟩ : G_band_worked) true v21) e0)) else band_Worth_L14 g n v12 v13 v14 v15 v16 v17 v18 (w64 (v19 + 1)) v20 v21 e0) else band_Worth_L14 g n v12 v13 v14 v15 v16 v17 v18 (w64 (v19 + 1)) v20 v21 e0)) else e0 v12 v13 v15 v16 v20 v21)
def band_Worth_L22 (g : C_band_Worth) : Nat → List G_Band → Int → Int → Int → List (G_band_worked × Bool) → List G_Spot → List Int → List G_Spot → {R : Type} → (Int → List G_Spot → Option R) → Option R
 | 0, _, _, _, _, _, _, _, _, _, _ => none
 | n + 1, v34, v35, v36, v37, v38, v39, v40, v41, _, e0 => (bif (decide (v36 < v35)) then (inr v39 v36 (at_ v39 v36 fun x46 => (inr v40 v36 (at_ v40 v36 fun x47 => (get_ v34 x47 fun x48 => (g.z75z x46.f_Call (fun r49 => (bif (!((mget_band_worked_bool (⟨r49, x48.f_Key⟩ : G_band_worked) v38).getD false)) then (bif (decide ((v41.length + [x46].length) * 48 ≤ roomBytes')) then band_Worth_L22 g n v34 v35 (w64 (v36 + 1)) v37 v38 v39 v40 (v41 ++ [x46]) e0 else none) else band_Worth_L22 g n v34 v35 (w64 (v36 + 1)) v37 v38 v39 v40 v41 e0)))))))) else e0 v37 v41)
def band_Worth_ (g : C_band_Worth) (a1 : List G_Band) (a2 : List G_Spot) (a3 : List G_Contact) (a4 a5 a6 a7 : Int) {R : Type} (k0 : List G_Spot → Int → Option R) : Option R :=
 (g.z73z a1 a2 (fun r8 => (bif (r8 != 0) then k0 [] r8 else (g.z46z a3 (fun r9 => (bif (r9 != 0) then k0 [] r9 else (g.kit_IsMode a4 (fun r10 => (bif (!r10) then k0 [] 4 else (g.z74z a5 a6 a7 (fun r11 => (bif (r11 != 0) then k0 [] r11 else (band_Worth_L14 g g.N a1 a2 a4 a5 a6 a3 (a3.length : Int) 0 a7 [] (fun e26 e27 e28 e29 e30 e31 => (g.band_heard e26 e27 e28 e29 (fun r32 r33 => (band_Worth_L22 g g.N e26 (r32.length : Int) 0 e30 e31 r32 r33 [] (fun e50 e51 => (g.z20z e51 e50 (fun r52 r53 => k0 r52 0))))))))))))))))))))
noncomputable def I_band_Worth [Fuel] : C_band_Worth := ⟨NN, @z73z _, @z46z _, @kit_IsMode _, @z74z _, @z75z _, @band_heard _, @z20z _⟩
noncomputable def band_Worth [Fuel] : T_band_Worth := @band_Worth_ I_band_Worth
def SS_band_Worth (g : T_band_Worth) : Spec A := fun args => match args with | [.d (.sl 62 a1), .d (.sl 42 a2), .d (.sl 38 a3), .d (.int .i64 a4), .d (.int .i64 a5), .d (.int .i64 a6), .d (.int .i64 a7)] => fun k => g a1 a2 a3 a4 a5 a6 a7 (fun z0 z1 => k (.tup [.arr 42 z0, .d (.int .i64 z1)]) [.undef, .undef, .undef, .undef, .undef, .undef, .undef]) | _ => fun _ => none
def sh_band_Worth_L14 : SSt := mkSh 114 10 [(0, .sl 62), (1, .sl 42), (3, .int .i64), (4, .int .i64), (5, .int .i64), (13, .ptr 0 0), (19, .mp 1), (50, .sl 38), (51, .int .i64), (52, .int .i64)] [(0, .box [.int .i64]), (1, .mp 72 4)]
def LP_band_Worth_L14 (g : C_band_Worth) (n : Nat) : LPT A := fun ps => match ps with | [.d (.sl 62 p1), .d (.sl 42 p2), .d (.int .i64 p3), .d (.int .i64 p4), .d (.int .i64 p5), .d (.sl 38 p6), .d (.int .i64 p7), .d (.int .i64 p8), .d (.int .i64 p9), .mp 72 4 p10] => fun K => band_Worth_L14 g n p1 p2 p3 p4 p5 p6 p7 p8 p9 p10 (fun z0 z1 z2 z3 z4 z5 => K (.exit 0) (mkSt 114 10 [(0, .d (.sl 62 z0)), (1, .d (.sl 42 z1)), (4, .d (.int .i64 z2)), (5, .d (.int .i64 z3)), (13, .ptr 0 0), (19, .mp 1)] [(0, some (.box [.d (.int .i64 z4)])), (1, some (.mp 72 4 z5))])) | _ => fun _ => none
def sh_band_Worth_L22 : SSt := mkSh 114 10 [(0, .sl 62), (13, .ptr 0 0), (19, .mp 1), (23, .own 3 4), (24, .own 42 5), (82, .own 42 3), (83, .int .i64), (84, .int .i64)] [(0, .box [.int .i64]), (1, .mp 72 4), (3, .row 42), (4, .row 3), (5, .row 42)]
def LP_band_Worth_L22 (g : C_band_Worth) (n : Nat) : LPT A := fun ps => match ps with | [.d (.sl 62 p1), .d (.int .i64 p2), .d (.int .i64 p3), .d (.int .i64 p4), .mp 72 4 p5, .d (.sl 42 p6), .d (.sl 3 p7), .d (.sl 42 p8)] => fun K => band_Worth_L22 g n p1 p2 p3 p4 p5 p6 p7 p8 (fun z0 z1 => K (.exit 2) (mkSt 114 10 [(13, .ptr 0 0), (24, .own 42 5)] [(0, some (.box [.d (.int .i64 z0)])), (5, some (.row 42 z1))])) | _ => fun _ => none
noncomputable def code_9 : Code := (Tryz.f9.body).getD .skip
noncomputable def E_band_Worth (g : C_band_Worth) : Env A := mkE [(31, SS_z73z g.z73z), (32, SS_z46z g.z46z), (33, SS_kit_IsMode g.kit_IsMode), (34, SS_z74z g.z74z), (35, SS_z75z g.z75z), (36, SS_band_heard g.band_heard), (38, SS_z20z g.z20z)] [(13, [0]), (21, [2]), (26, [6]), (27, [9]), (49, [1]), (79, [3, 4]), (106, [7]), (107, [8])] [(14, ⟨[0, 1, 3, 4, 5, 13, 19, 50, 51, 52], [], [0, 1], [], [], [], []⟩), (22, ⟨[0, 13, 19, 23, 24, 82, 83, 84], [(24, 42, 5)], [0, 1, 3, 4], [], [], [], []⟩)] [(14, ⟨[0, 1, 4, 5, 13, 19], [], [0, 1], [], [], [], []⟩), (22, ⟨[13, 24], [], [0, 5], [], [], [], []⟩)] [(14, pieceOf sh_band_Worth_L14 (LP_band_Worth_L14 g g.N)), (22, pieceOf sh_band_Worth_L22 (LP_band_Worth_L22 g g.N))] [(28, ⟨[24, 27], [], [5, 9], [], [], [], [0]⟩)] [] [] [(38, 0)] []
theorem ct_band_Worth [Fuel] : NatTab (E_band_Worth I_band_Worth).C := ct_of (P := Tryz.prog) (T := T) (.cons ok_z73z (.cons ok_z46z (.cons ok_kit_IsMode (.cons ok_z74z (.cons ok_z75z (.cons ok_band_heard (.cons ok_z20z .nil))))))) (by kernel_rfl)
noncomputable def cb_band_Worth_L14 : Code := sub [1, 1, 1, 1, 1, 1, 0, 1, 0, 0] code_9
theorem s_band_Worth_L14 (g : C_band_Worth) (n : Nat) : StepOk (E_band_Worth g) g.N cb_band_Worth_L14 sh_band_Worth_L14 (LP_band_Worth_L14 g) n := by intro ps; unfold LP_band_Worth_L14; split; exact .inr fun R K => (by kernel_rfl); exact .inl fun R K => rfl
theorem lf_band_Worth_L14 [Fuel] : LoopFine (E_band_Worth I_band_Worth) NN cb_band_Worth_L14 := fine_loop sh_band_Worth_L14 (LP_band_Worth_L14 I_band_Worth) (by kernel_rfl) ct_band_Worth (cuts0 (fun _ => rfl) (by kernel_rfl)) (fun ps R K => by unfold LP_band_Worth_L14; split <;> (try unfold band_Worth_L14) <;> rfl) (s_band_Worth_L14 I_band_Worth)
noncomputable def cb_band_Worth_L22 : Code := sub [1, 1, 1, 1, 1, 1, 1, 1, 1, 0, 1, 0, 0] code_9
theorem s_band_Worth_L22 (g : C_band_Worth) (n : Nat) : StepOk (E_band_Worth g) g.N cb_band_Worth_L22 sh_band_Worth_L22 (LP_band_Worth_L22 g) n := by intro ps; unfold LP_band_Worth_L22; split; exact .inr fun R K => (by kernel_rfl); exact .inl fun R K => rfl
theorem lf_band_Worth_L22 [Fuel] : LoopFine (E_band_Worth I_band_Worth) NN cb_band_Worth_L22 := fine_loop sh_band_Worth_L22 (LP_band_Worth_L22 I_band_Worth) (by kernel_rfl) ct_band_Worth (cuts0 (fun _ => rfl) (by kernel_rfl)) (fun ps R K => by unfold LP_band_Worth_L22; split <;> (try unfold band_Worth_L22) <;> rfl) (s_band_Worth_L22 I_band_Worth)
theorem sm_band_Worth (g : C_band_Worth) : Same (SS_band_Worth (@band_Worth_ g)) (abody (E_band_Worth g) Tryz.f9 code_9 10 [] [.arr 42, .asis] g.N) := by intro args; unfold SS_band_Worth; split; exact .inr fun R k => (by kernel_rfl); exact .inl fun R k => rfl
theorem ok_band_Worth [Fuel] : Ok 9 (SS_band_Worth (@band_Worth _)) := okF_of std (.cons ok_z73z (.cons ok_z46z (.cons ok_kit_IsMode (.cons ok_z74z (.cons ok_z75z (.cons ok_band_heard (.cons ok_z20z .nil))))))) ⟨rfl, rfl, by kernel_rfl, rfl, rfl, rfl⟩ (sm_band_Worth I_band_Worth) (cutsL (fun _ => rfl) (.cons lf_band_Worth_L14 (.cons lf_band_Worth_L22 .nil)) (by kernel_rfl)) Tryz.func9 (by kernel_rfl) (by kernel_rfl)
abbrev T_z67z : Type 1 := List G_Contact → {R : Type} → (List G_Contact → Option R) → Option R
def z67z [Fuel] : T_z67z := @X_clone G_Contact 96
def SS_z67z (g : T_z67z) : Spec A := fun args => match args with | [.d (.sl 38 x1)] => fun k => g x1 (fun z => k (.arr 38 z) [.undef]) | _ => fun _ => none
theorem h1_z67z [Fuel] (xs : List (A 38)) (R : Type) (k : IV A → List (IV A) → Option R) : SS_z67z (@z67z _) [.d (.sl 38 xs)] k = X_clone 96 xs (fun z => k (.arr 38 z) [.undef]) := by kernel_rfl
theorem h2_z67z [Fuel] (args : List (IV A)) (R : Type) (k : IV A → List (IV A) → Option R) (h : ∀ xs : List (A 38), args ≠ [.d (.sl 38 xs)]) : SS_z67z (@z67z _) args k = none := by unfold SS_z67z; split; exact absurd rfl (h _); rfl
theorem ok_z67z [Fuel] : Ok 11 (SS_z67z (@z67z _)) := ⟨clone_fs (clone_sound rfl (tyOk Tryz.prog) (e := 38) (size := 8) (bytes := 96) (ty := 38) (by kernel_rfl) (fun n c w => AnyE.slices_Clone_nil Tryz.clone11 n c w) (fun b off n c news w h1 h2 h3 h4 h5 => AnyE.slices_Clone Tryz.clone11 Tryz.ti38 Tryz.zv38 8 96 (by kernel_rfl) (by kernel_rfl) (by kernel_rfl) (by kernel_rfl) (by kernel_rfl) (by decide) Tryz.sizeOf38 b off n c news w h1 h2 h3 h4 h5)) h1_z67z h2_z67z, clone_na h1_z67z h2_z67z, enters_of (fn := Tryz.f11) Tryz.func11 (by kernel_rfl) (by kernel_rfl)⟩
abbrev T_z12z : Type 1 := G_Contact → {R : Type} → (Bool → Option R) → Option R
def z12z_ (g : Nat) (a1 : G_Contact) {R : Type} (k0 : Bool → Option R) : Option R :=
 k0 (decide (a1.f_At > 200))
noncomputable def z12z [Fuel] : T_z12z := @z12z_ NN
def SS_z12z (g : T_z12z) : Spec A := fun args => match args with | [.agg [.d (.int .i64 a1), .d (.int .i64 a2), .d (.str a3), .d (.str a4), .d (.int .i64 a5), .d (.int .i64 a6), .d (.str a7), .d (.str a8)]] => fun k => g ⟨a1, a2, a3, a4, a5, a6, a7, a8⟩ (fun z0 => k (.d (.bool z0)) [.undef]) | _ => fun _ => none
noncomputable def code_12 : Code := (Tryz.f12.body).getD .skip
noncomputable def E_z12z (g : Nat) : Env A := mkE [] [(1, [0])] [] [] [] [] [] [] [] []
theorem sm_z12z (g : Nat) : Same (SS_z12z (@z12z_ g)) (abody (E_z12z g) Tryz.f12 code_12 1 [] [.asis] g) := by intro args; unfold SS_z12z; split; exact .inr fun R k => (by kernel_rfl); exact .inl fun R k => rfl
theorem ok_z12z [Fuel] : Ok 12 (SS_z12z (@z12z _)) := okF_of std .nil ⟨rfl, rfl, by kernel_rfl, rfl, rfl, rfl⟩ (sm_z12z NN) (cuts0 (fun _ => rfl) (by kernel_rfl)) Tryz.func12 (by kernel_rfl) (by kernel_rfl)
abbrev T_z13z : Type 1 := List G_Contact → {R : Type} → (Int → List G_Contact → Option R) → Option R
structure C_z13z where
 N : Nat
 z12z : T_z12z
def z13z_L2 (g : C_z13z) : Nat → Int → Int → List G_Contact → {R : Type} → (Int → List G_Contact → Option R) → (List G_Contact → Option R) → Option R
 | 0, _, _, _, _, _, _ => none
 | n + 1, v2, v3, v4, _, e0, e1 => (bif (decide (v3 < v2)) then (inr v4 v3 (at_ v4 v3 fun x7 => (g.z12z x7 (fun r8 => (bif r8 then e0 v3 v4 else z13z_L2 g n v2 (w64 (v3 + 1)) v4 e0 e1))))) else e1 v4)
def z13z_ (g : C_z13z) (a1 : List G_Contact) {R : Type} (k0 : Int → List G_Contact → Option R) : Option R :=
 (z13z_L2 g g.N (a1.length : Int) 0 a1 (fun e9 e10 => k0 e9 e10) (fun e11 => k0 (-1) e11))
noncomputable def I_z13z [Fuel] : C_z13z := ⟨NN, @z12z _⟩
noncomputable def z13z [Fuel] : T_z13z := @z13z_ I_z13z
def SS_z13z (g : T_z13z) : Spec A := fun args => match args with | [.arr 38 a1, .fn 12 []] => fun k => g a1 (fun z0 z1 => k (.d (.int .i64 z0)) [.arr 38 z1, .fn 12 []]) | _ => fun _ => none
def sh_z13z_L2 : SSt := mkSh 19 1 [(0, .own 38 0), (1, .fn 12 []), (7, .int .i64), (8, .int .i64)] [(0, .row 38)]
def LP_z13z_L2 (g : C_z13z) (n : Nat) : LPT A := fun ps => match ps with | [.d (.int .i64 p1), .d (.int .i64 p2), .d (.sl 38 p3)] => fun K => z13z_L2 g n p1 p2 p3 (fun z0 z1 => K .ret (mkSt 19 1 [(0, .own 38 0), (1, .fn 12 []), (4, .d (.int .i64 z0))] [(0, some (.row 38 z1))])) (fun z0 => K (.exit 0) (mkSt 19 1 [(0, .own 38 0), (1, .fn 12 [])] [(0, some (.row 38 z0))])) | _ => fun _ => none
noncomputable def code_40 : Code := (Tryz.f40.body).getD .skip
noncomputable def E_z13z (g : C_z13z) : Env A := mkE [(12, SS_z12z g.z12z)] [] [(2, ⟨[0, 1, 7, 8], [], [0], [], [], [], []⟩)] [(2, ⟨[0, 1, 4], [], [0], [], [], [], []⟩)] [(2, pieceOf sh_z13z_L2 (LP_z13z_L2 g g.N))] [] [] [] [] [0, 1]
theorem ct_z13z [Fuel] : NatTab (E_z13z I_z13z).C := ct_of (P := Tryz.prog) (T := T) (.cons ok_z12z .nil) (by kernel_rfl)
noncomputable def cb_z13z_L2 : Code := sub [1, 0, 1, 0, 0] code_40
theorem s_z13z_L2 (g : C_z13z) (n : Nat) : StepOk (E_z13z g) g.N cb_z13z_L2 sh_z13z_L2 (LP_z13z_L2 g) n := by intro ps; unfold LP_z13z_L2; split; exact .inr fun R K => (by kernel_rfl); exact .inl fun R K => rfl
theorem lf_z13z_L2 [Fuel] : LoopFine (E_z13z I_z13z) NN cb_z13z_L2 := fine_loop sh_z13z_L2 (LP_z13z_L2 I_z13z) (by kernel_rfl) ct_z13z (cuts0 (fun _ => rfl) (by kernel_rfl)) (fun ps R K => by unfold LP_z13z_L2; split <;> (try unfold z13z_L2) <;> rfl) (s_z13z_L2 I_z13z)
theorem sm_z13z (g : C_z13z) : Same (SS_z13z (@z13z_ g)) (abody (E_z13z g) Tryz.f40 code_40 1 [0] [.asis] g.N) := by intro args; unfold SS_z13z; split; exact .inr fun R k => (by kernel_rfl); exact .inl fun R k => rfl
theorem ok_z13z [Fuel] : Ok 40 (SS_z13z (@z13z _)) := okF_of std (.cons ok_z12z .nil) ⟨rfl, rfl, by kernel_rfl, rfl, rfl, rfl⟩ (sm_z13z I_z13z) (cutsL (fun _ => rfl) (.cons lf_z13z_L2 .nil) (by kernel_rfl)) Tryz.func40 (by kernel_rfl) (by kernel_rfl)
abbrev T_z10z : Type 1 := List G_Contact → {R : Type} → (List G_Contact → Option R) → Option R
structure C_z10z where
 N : Nat
 z12z : T_z12z
 z13z : T_z13z
def z10z_L5 (g : C_z10z) : Nat → Int → Int → List G_Contact → {R : Type} → (Int → List G_Contact → Option R) → Option R
 | 0, _, _, _, _, _ => none
 | n + 1, v4, v5, v6, _, e0 => (bif (decide (v5 < (v6.length : Int))) then (inr v6 v5 (at_ v6 v5 fun x10 => (g.z12z x10 (fun r11 => (bif (!r11) then (inr v6 v4 (at_ v6 v4 fun x12 => z10z_L5 g n (w64 (v4 + 1)) (w64 (v5 + 1)) (set_ v6 v4 x10) e0)) else z10z_L5 g n v4 (w64 (v5 + 1)) v6 e0))))) else e0 v4 v6)
def z10z_ (g : C_z10z) (a1 : List G_Contact) {R : Type} (k0 : List G_Contact → Option R) : Option R :=
 (g.z13z a1 (fun r2 r3 => (bif (r2 == (-1)) then k0 r3 else (z10z_L5 g g.N r2 (w64 (r2 + 1)) r3 (fun e13 e14 => (bif (decide (0 < e14.length) && (decide (0 ≤ e13) && decide (e13 ≤ (e14.length : Int)))) then (bif (decide (0 ≤ e13) && (decide (e13 ≤ (e14.length : Int)) && decide (((e14.length : Int)).toNat ≤ e14.length))) then (bif (decide (0 ≤ e13) && decide (e13 ≤ ((e14.take (e13).toNat ++ (List.replicate ((e14.length : Int) - e13).toNat (⟨0, 0, [], [], 0, 0, [], []⟩ : G_Contact) ++ e14.drop ((e14.length : Int)).toNat)).length : Int))) then k0 ((e14.take (e13).toNat ++ (List.replicate ((e14.length : Int) - e13).toNat (⟨0, 0, [], [], 0, 0, [], []⟩ : G_Contact) ++ e14.drop ((e14.length : Int)).toNat)).take (e13 : Int).toNat) else none) else none) else none))))))
noncomputable def I_z10z [Fuel] : C_z10z := ⟨NN, @z12z _, @z13z _⟩
noncomputable def z10z [Fuel] : T_z10z := @z10z_ I_z10z
def SS_z10z (g : T_z10z) : Spec A := fun args => match args with | [.arr 38 a1, .fn 12 []] => fun k => g a1 (fun z0 => k (.arr 38 z0) [.undef, .fn 12 []]) | _ => fun _ => none
def sh_z10z_L5 : SSt := mkSh 42 5 [(0, .own 38 0), (1, .fn 12 []), (5, .int .i64), (6, .int .i64)] [(0, .row 38)]
def LP_z10z_L5 (g : C_z10z) (n : Nat) : LPT A := fun ps => match ps with | [.d (.int .i64 p1), .d (.int .i64 p2), .d (.sl 38 p3)] => fun K => z10z_L5 g n p1 p2 p3 (fun z0 z1 => K (.exit 0) (mkSt 42 5 [(0, .own 38 0), (1, .fn 12 []), (5, .d (.int .i64 z0))] [(0, some (.row 38 z1))])) | _ => fun _ => none
noncomputable def code_10 : Code := (Tryz.f10.body).getD .skip
noncomputable def E_z10z (g : C_z10z) : Env A := mkE [(12, SS_z12z g.z12z), (40, SS_z13z g.z13z)] [(7, [1]), (38, [2, 3]), (41, [4])] [(5, ⟨[0, 1, 5, 6], [], [0], [], [], [], []⟩)] [(5, ⟨[0, 1, 5], [], [0], [], [], [], []⟩)] [(5, pieceOf sh_z10z_L5 (LP_z10z_L5 g g.N))] [] [] [] [(40, 0)] [1]
theorem ct_z10z [Fuel] : NatTab (E_z10z I_z10z).C := ct_of (P := Tryz.prog) (T := T) (.cons ok_z12z (.cons ok_z13z .nil)) (by kernel_rfl)
noncomputable def cb_z10z_L5 : Code := sub [1, 1, 1, 0, 1, 0, 0] code_10
theorem s_z10z_L5 (g : C_z10z) (n : Nat) : StepOk (E_z10z g) g.N cb_z10z_L5 sh_z10z_L5 (LP_z10z_L5 g) n := by intro ps; unfold LP_z10z_L5; split; exact .inr fun R K => (by kernel_rfl); exact .inl fun R K => rfl
theorem lf_z10z_L5 [Fuel] : LoopFine (E_z10z I_z10z) NN cb_z10z_L5 := fine_loop sh_z10z_L5 (LP_z10z_L5 I_z10z) (by kernel_rfl) ct_z10z (cuts0 (fun _ => rfl) (by kernel_rfl)) (fun ps R K => by unfold LP_z10z_L5; split <;> (try unfold z10z_L5) <;> rfl) (s_z10z_L5 I_z10z)
theorem sm_z10z (g : C_z10z) : Same (SS_z10z (@z10z_ g)) (abody (E_z10z g) Tryz.f10 code_10 5 [0] [.arr 38] g.N) := by intro args; unfold SS_z10z; split; exact .inr fun R k => (by kernel_rfl); exact .inl fun R k => rfl
theorem ok_z10z [Fuel] : Ok 10 (SS_z10z (@z10z _)) := okF_of std (.cons ok_z12z (.cons ok_z13z .nil)) ⟨rfl, rfl, by kernel_rfl, rfl, rfl, rfl⟩ (sm_z10z I_z10z) (cutsL (fun _ => rfl) (.cons lf_z10z_L5 .nil) (by kernel_rfl)) Tryz.func10 (by kernel_rfl) (by kernel_rfl)
abbrev T_log_BandOf : Type 1 := List G_Band → Int → {R : Type} → (List UInt8 → Bool → Int → Option R) → Option R
structure C_log_BandOf where
 N : Nat
 z8z : T_z8z
 z44z : T_z44z
 log_At : T_log_At
def log_BandOf_ (g : C_log_BandOf) (a1 : List G_Band) (a2 : Int) {R : Type} (k0 : List UInt8 → Bool → Int → Option R) : Option R :=
 (g.z8z a1 (fun r3 => (bif (r3 != 0) then k0 [] false r3 else (g.z44z a2 0 30000000000 (fun r4 => (bif r4 then k0 [] false 1 else (g.log_At a1 a2 (fun r5 => (bif (decide (r5 < 0)) then k0 [] false 0 else (get_ a1 r5 fun x6 => k0 x6.f_Key true 0))))))))))
noncomputable def I_log_BandOf [Fuel] : C_log_BandOf := ⟨NN, @z8z _, @z44z _, @log_At _⟩
noncomputable def log_BandOf [Fuel] : T_log_BandOf := @log_BandOf_ I_log_BandOf
def SS_log_BandOf (g : T_log_BandOf) : Spec A := fun args => match args with | [.d (.sl 62 a1), .d (.int .i64 a2)] => fun k => g a1 a2 (fun z0 z1 z2 => k (.tup [.d (.str z0), .d (.bool z1), .d (.int .i64 z2)]) [.undef, .undef]) | _ => fun _ => none
noncomputable def code_13 : Code := (Tryz.f13.body).getD .skip
noncomputable def E_log_BandOf (g : C_log_BandOf) : Env A := mkE [(41, SS_z8z g.z8z), (42, SS_z44z g.z44z), (43, SS_log_At g.log_At)] [] [] [] [] [] [] [] [] []
theorem sm_log_BandOf (g : C_log_BandOf) : Same (SS_log_BandOf (@log_BandOf_ g)) (abody (E_log_BandOf g) Tryz.f13 code_13 0 [] [.asis, .asis, .asis] g.N) := by intro args; unfold SS_log_BandOf; split; exact .inr fun R k => (by kernel_rfl); exact .inl fun R k => rfl
theorem ok_log_BandOf [Fuel] : Ok 13 (SS_log_BandOf (@log_BandOf _)) := okF_of std (.cons ok_z8z (.cons ok_z44z (.cons ok_log_At .nil))) ⟨rfl, rfl, by kernel_rfl, rfl, rfl, rfl⟩ (sm_log_BandOf I_log_BandOf) (cuts0 (fun _ => rfl) (by kernel_rfl)) Tryz.func13 (by kernel_rfl) (by kernel_rfl)
end Go.Am
