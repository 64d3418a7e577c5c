/- The functions of the program as Lean functions, each shown to be what the code computes, part 8. No condition: lemmas for the claim. -/
import Derived.Test.YtdpapgakljjnnaaGreatDoorF0
import Derived.Test.YtdpapgakljjnnaaGreatDoorFSh
import Derived.Test.YtdpapgakljjnnaaGreatDoorF6
import Derived.Test.YtdpapgakljjnnaaGreatDoorF7
set_option linter.unusedVariables false
set_option maxRecDepth 100000
namespace Go.Am
open Go Go.Proofs
abbrev T_z22z : Type 1 := List G_Deed → Int → {R : Type} → (Int → Option R) → (List G_Deed → List G_Contact → List (List UInt8) → List Int → List (G_net_own × Bool) → Int → Option R) → Option R
structure C_z22z where
 N : Nat
 z14z : T_z14z
 net_key : T_net_key
 z28z : T_z28z
def z22z_L4 (g : C_z22z) : Nat → List G_Deed → Int → Int → List (G_net_own × Bool) → List (G_Contact × G_Deed) → List Int → List G_Deed → List G_Contact → List (List UInt8) → List Int → {R : Type} → (List (G_net_own × Bool) → List (G_Contact × G_Deed) → List G_Deed → List G_Contact → List (List UInt8) → List Int → Option R) → Option R
 | 0, _, _, _, _, _, _, _, _, _, _, _, _ => none
 | n + 1, v4, v5, v6, v7, v8, v9, v10, v11, v12, v13, _, e0 => (bif (decide (v6 < v5)) then (inr v9 v6 (at_ v9 v6 fun x26 => (get_ v4 x26 fun x27 => (bif (decide ((v10.length + [x27].length) * 176 ≤ roomBytes')) then (bif (x27.f_Kind == 3) then (bif (x27.f_Kind != 1) then z22z_L4 g n v4 v5 (w64 (v6 + 1)) (mset_net_own_bool (⟨x27.f_Site, x27.f_Contact.f_Sent⟩ : G_net_own) true v7) v8 v9 (v10 ++ [x27]) v11 v12 v13 e0 else (g.net_key x27.f_Contact (fun r28 => (bif (mget_Contact_Deed r28 v8).isSome then (bif (decide ((v13.length + [x26].length) * 8 ≤ roomBytes')) then z22z_L4 g n v4 v5 (w64 (v6 + 1)) (mset_net_own_bool (⟨x27.f_Site, x27.f_Contact.f_Sent⟩ : G_net_own) true v7) v8 v9 (v10 ++ [x27]) v11 v12 (v13 ++ [x26]) e0 else none) else (g.net_key x27.f_Contact (fun r29 => (bif (decide ((v11.length + [x27.f_Contact].length) * 96 ≤ roomBytes')) then z22z_L4 g n v4 v5 (w64 (v6 + 1)) (mset_net_own_bool (⟨x27.f_Site, x27.f_Contact.f_Sent⟩ : G_net_own) true v7) (mset_Contact_Deed r29 x27 v8) v9 (v10 ++ [x27]) (v11 ++ [x27.f_Contact]) v12 v13 e0 else none))))))) else (bif (x27.f_Kind == 4) then (bif (x27.f_Kind == 4) then (bif (x27.f_Kind != 1) then z22z_L4 g n v4 v5 (w64 (v6 + 1)) (mdel_net_own_bool (⟨x27.f_Site, x27.f_Contact.f_Sent⟩ : G_net_own) v7) v8 v9 (v10 ++ [x27]) v11 v12 v13 e0 else (g.net_key x27.f_Contact (fun r30 => (bif (mget_Contact_Deed r30 v8).isSome then (bif (decide ((v13.length + [x26].length) * 8 ≤ roomBytes')) then z22z_L4 g n v4 v5 (w64 (v6 + 1)) (mdel_net_own_bool (⟨x27.f_Site, x27.f_Contact.f_Sent⟩ : G_net_own) v7) v8 v9 (v10 ++ [x27]) v11 v12 (v13 ++ [x26]) e0 else none) else (g.net_key x27.f_Contact (fun r31 => (bif (decide ((v11.length + [x27.f_Contact].length) * 96 ≤ roomBytes')) then z22z_L4 g n v4 v5 (w64 (v6 + 1)) (mdel_net_own_bool (⟨x27.f_Site, x27.f_Contact.f_Sent⟩ : G_net_own) v7) (mset_Contact_Deed r31 x27 v8) v9 (v10 ++ [x27]) (v11 ++ [x27.f_Contact]) v12 v13 e0 else none))))))) else (bif (x27.f_Kind != 1) then z22z_L4 g n v4 v5 (w64 (v6 + 1)) v7 v8 v9 (v10 ++ [x27]) v11 v12 v13 e0 else (g.net_key x27.f_Contact (fun r32 => (bif (mget_Contact_Deed r32 v8).isSome then (bif (decide ((v13.length + [x26].length) * 8 ≤ roomBytes')) then z22z_L4 g n v4 v5 (w64 (v6 + 1)) v7 v8 v9 (v10 ++ [x27]) v11 v12 (v13 ++ [x26]) e0 else none) else (g.net_key x27.f_Contact (fun r33 => (bif (decide ((v11.length + [x27.f_Contact].length) * 96 ≤ roomBytes')) then z22z_L4 g n v4 v5 (w64 (v6 + 1)) v7 (mset_Contact_Deed r33 x27 v8) v9 (v10 ++ [x27]) (v11 ++ [x27.f_Contact]) v12 v13 e0 else none)))))))) else (bif (x27.f_Kind == 1) then (bif (x27.f_Kind != 1) then z22z_L4 g n v4 v5 (w64 (v6 + 1)) (mdel_net_own_bool (⟨x27.f_Site, x27.f_Contact.f_Sent⟩ : G_net_own) v7) v8 v9 (v10 ++ [x27]) v11 v12 v13 e0 else (g.net_key x27.f_Contact (fun r34 => (bif (mget_Contact_Deed r34 v8).isSome then (bif (decide ((v13.length + [x26].length) * 8 ≤ roomBytes')) then z22z_L4 g n v4 v5 (w64 (v6 + 1)) (mdel_net_own_bool (⟨x27.f_Site, x27.f_Contact.f_Sent⟩ : G_net_own) v7) v8 v9 (v10 ++ [x27]) v11 v12 (v13 ++ [x26]) e0 else none) else (g.net_key x27.f_Contact (fun r35 => (bif (decide ((v11.length + [x27.f_Contact].length) * 96 ≤ roomBytes')) then z22z_L4 g n v4 v5 (w64 (v6 + 1)) (mdel_net_own_bool (⟨x27.f_Site, x27.f_Contact.f_Sent⟩ : G_net_own) v7) (mset_Contact_Deed r35 x27 v8) v9 (v10 ++ [x27]) (v11 ++ [x27.f_Contact]) v12 v13 e0 else none))))))) else (bif (x27.f_Kind != 1) then z22z_L4 g n v4 v5 (w64 (v6 + 1)) v7 v8 v9 (v10 ++ [x27]) v11 v12 v13 e0 else (g.net_key x27.f_Contact (fun r36 => (bif (mget_Contact_Deed r36 v8).isSome then (bif (decide ((v13.length + [x26].length) * 8 ≤ roomBytes')) then z22z_L4 g n v4 v5 (w64 (v6 + 1)) v7 v8 v9 (v10 ++ [x27]) v11 v12 (v13 ++ [x26]) e0 else none) else (g.net_key x27.f_Contact (fun r37 => (bif (decide ((v11.length + [x27.f_Contact].length) * 96 ≤ roomBytes')) then z22z_L4 g n v4 v5 (w64 (v6 + 1)) v7 (mset_Contact_Deed r37 x27 v8) v9 (v10 ++ [x27]) (v11 ++ [x27.f_Contact]) v12 v13 e0 else none)))))))))) else none)))) else e0 v7 v8 v10 v11 v12 v13)
def z22z_L25 (g : C_z22z) : Nat → Int → Int → List (G_net_own × Bool) → List (G_Contact × G_Deed) → List G_Deed → List G_Contact → List (List UInt8) → List Int → {R : Type} → (List (G_net_own × Bool) → List G_Deed → List G_Contact → List (List UInt8) → List Int → Option R) → Option R
 | 0, _, _, _, _, _, _, _, _, _, _ => none
 | n + 1, v45, v46, v47, v48, v49, v50, v51, v52, _, e0 => (bif (decide (v46 < v45)) then (inr v50 v46 (at_ v50 v46 fun x55 => (g.net_key x55 (fun r56 => (bif (decide ((v51.length + [((mget_Contact_Deed r56 v48).getD (⟨[], 0, 0, 0, (⟨0, 0, [], [], 0, 0, [], []⟩ : G_Contact), [], [], 0⟩ : G_Deed)).f_Site].length) * 16 ≤ roomBytes')) then z22z_L25 g n v45 (w64 (v46 + 1)) v47 v48 v49 v50 (v51 ++ [((mget_Contact_Deed r56 v48).getD (⟨[], 0, 0, 0, (⟨0, 0, [], [], 0, 0, [], []⟩ : G_Contact), [], [], 0⟩ : G_Deed)).f_Site]) v52 e0 else none))))) else e0 v47 v49 v50 v51 v52)
def z22z_ (g : C_z22z) (a1 : List G_Deed) (a2 : Int) {R : Type} (k0 : Int → Option R) (k1 : List G_Deed → List G_Contact → List (List UInt8) → List Int → List (G_net_own × Bool) → Int → Option R) : Option R :=
 (g.z14z a1 a2 (fun r3 => (z22z_L4 g g.N a1 (r3.length : Int) 0 [] [] r3 [] [] [] [] (fun e38 e39 e40 e41 e42 e43 => (bif (decide ((e41.length : Int) > 2000)) then k0 2 else (g.z28z e41 (fun r44 => (z22z_L25 g g.N (r44.length : Int) 0 e38 e39 e40 r44 e42 e43 (fun e57 e58 e59 e60 e61 => k1 e58 e59 e60 e61 e57 0)))))))))
noncomputable def I_z22z [Fuel] : C_z22z := ⟨NN, @z14z _, @net_key _, @z28z _⟩
noncomputable def z22z [Fuel] : T_z22z := @z22z_ I_z22z
def SS_z22z (g : T_z22z) : Spec A := fun args => match args with | [.d (.sl 35 a1), .d (.int .i64 a2)] => fun k => g a1 a2 (fun z0 => k (.tup [.d (.lit (.pointer none)), .d (.int .i64 z0)]) [.undef, .undef]) (fun z0 z1 z2 z3 z4 z5 => k (.tup [.box [.arr 35 z0, .arr 33 z1, .arr 9 z2, .arr 3 z3, .mp 102 4 z4], .d (.int .i64 z5)]) [.undef, .undef]) | _ => fun _ => none
def sh_z22z_L4 : SSt := mkSh 143 23 [(0, .sl 35), (6, .ptr 1 0), (7, .mp 2), (21, .own 3 3), (22, .int .i64), (23, .int .i64)] [(0, .mp 102 4), (1, .box [.own 35 4, .own 33 5, .own 9 6, .own 3 7, .mp 0]), (2, .mp 33 35), (3, .row 3), (4, .row 35), (5, .row 33), (6, .row 9), (7, .row 3)]
def LP_z22z_L4 (g : C_z22z) (n : Nat) : LPT A := fun ps => match ps with | [.d (.sl 35 p1), .d (.int .i64 p2), .d (.int .i64 p3), .mp 102 4 p4, .mp 33 35 p5, .d (.sl 3 p6), .d (.sl 35 p7), .d (.sl 33 p8), .d (.sl 9 p9), .d (.sl 3 p10)] => fun K => z22z_L4 g n p1 p2 p3 p4 p5 p6 p7 p8 p9 p10 (fun z0 z1 z2 z3 z4 z5 => K (.exit 0) (mkSt 143 23 [(6, .ptr 1 0), (7, .mp 2)] [(0, some (.mp 102 4 z0)), (1, some (.box [.own 35 4, .own 33 5, .own 9 6, .own 3 7, .mp 0])), (2, some (.mp 33 35 z1)), (4, some (.row 35 z2)), (5, some (.row 33 z3)), (6, some (.row 9 z4)), (7, some (.row 3 z5))])) | _ => fun _ => none
def sh_z22z_L25 : SSt := mkSh 143 23 [(6, .ptr 1 0), (7, .mp 2), (121, .own 33 17), (122, .int .i64), (123, .int .i64)] [(0, .mp 102 4), (1, .box [.own 35 16, .own 33 17, .own 9 18, .own 3 19, .mp 0]), (2, .mp 33 35), (16, .row 35), (17, .row 33), (18, .row 9), (19, .row 3)]
def LP_z22z_L25 (g : C_z22z) (n : Nat) : LPT A := fun ps => match ps with | [.d (.int .i64 p1), .d (.int .i64 p2), .mp 102 4 p3, .mp 33 35 p4, .d (.sl 35 p5), .d (.sl 33 p6), .d (.sl 9 p7), .d (.sl 3 p8)] => fun K => z22z_L25 g n p1 p2 p3 p4 p5 p6 p7 p8 (fun z0 z1 z2 z3 z4 => K (.exit 3) (mkSt 143 23 [(6, .ptr 1 0)] [(0, some (.mp 102 4 z0)), (1, some (.box [.own 35 16, .own 33 17, .own 9 18, .own 3 19, .mp 0])), (16, some (.row 35 z1)), (17, some (.row 33 z2)), (18, some (.row 9 z3)), (19, some (.row 3 z4))])) | _ => fun _ => none
noncomputable def code_89 : Code := (Tryz.f89.body).getD .skip
noncomputable def E_z22z (g : C_z22z) : Env A := mkE [(65, SS_z14z g.z14z), (132, SS_net_key g.net_key), (133, SS_z28z g.z28z)] [(10, [8]), (11, [11]), (14, [20]), (15, [0]), (17, [1]), (18, [2]), (21, [3]), (37, [9]), (38, [10]), (86, [12]), (87, [13]), (102, [14]), (103, [15]), (137, [21]), (138, [22])] [(4, ⟨[0, 6, 7, 21, 22, 23], [], [0, 1, 2, 3], [(1, 0, 35, 4), (1, 1, 33, 5), (1, 2, 9, 6), (1, 3, 3, 7)], [], [], []⟩), (25, ⟨[6, 7, 121, 122, 123], [], [0, 1, 2], [(1, 0, 35, 16), (1, 1, 33, 17), (1, 2, 9, 18), (1, 3, 3, 19)], [], [], []⟩)] [(4, ⟨[6, 7], [], [0, 1, 2, 4, 5, 6, 7], [], [], [], []⟩), (25, ⟨[6], [], [0, 1, 16, 17, 18, 19], [], [], [], []⟩)] [(4, pieceOf sh_z22z_L4 (LP_z22z_L4 g g.N)), (25, pieceOf sh_z22z_L25 (LP_z22z_L25 g g.N))] [] [] [] [(133, 0)] []
theorem ct_z22z [Fuel] : NatTab (E_z22z I_z22z).C := ct_of (P := Tryz.prog) (T := T) (.cons ok_z14z (.cons ok_net_key (.cons ok_z28z .nil))) (by kernel_rfl)
noncomputable def cb_z22z_L4 : Code := sub [1, 1, 1, 0, 1, 0, 0] code_89
theorem s_z22z_L4 (g : C_z22z) (n : Nat) : StepOk (E_z22z g) g.N cb_z22z_L4 sh_z22z_L4 (LP_z22z_L4 g) n := by intro ps; unfold LP_z22z_L4; split; exact .inr fun R K => (by kernel_rfl); exact .inl fun R K => rfl
theorem lf_z22z_L4 [Fuel] : LoopFine (E_z22z I_z22z) NN cb_z22z_L4 := fine_loop sh_z22z_L4 (LP_z22z_L4 I_z22z) (by kernel_rfl) ct_z22z (cuts0 (fun _ => rfl) (by kernel_rfl)) (fun ps R K => by unfold LP_z22z_L4; split <;> (try unfold z22z_L4) <;> rfl) (s_z22z_L4 I_z22z)
noncomputable def cb_z22z_L25 : Code := sub [1, 1, 1, 1, 1, 1, 0, 1, 0, 0] code_89
theorem s_z22z_L25 (g : C_z22z) (n : Nat) : StepOk (E_z22z g) g.N cb_z22z_L25 sh_z22z_L25 (LP_z22z_L25 g) n := by intro ps; unfold LP_z22z_L25; split; exact .inr fun R K => (by kernel_rfl); exact .inl fun R K => rfl
theorem lf_z22z_L25 [Fuel] : LoopFine (E_z22z I_z22z) NN cb_z22z_L25 := fine_loop sh_z22z_L25 (LP_z22z_L25 I_z22z) (by kernel_rfl) ct_z22z (cuts0 (fun _ => rfl) (by kernel_rfl)) (fun ps R K => by unfold LP_z22z_L25; split <;> (try unfold z22z_L25) <;> rfl) (s_z22z_L25 I_z22z)
theorem sm_z22z (g : C_z22z) : Same (SS_z22z (@z22z_ g)) (abody (E_z22z g) Tryz.f89 code_89 23 [] [.asis, .asis] g.N) := by intro args; unfold SS_z22z; split; exact .inr fun R k => (by kernel_rfl); exact .inl fun R k => rfl
theorem ok_z22z [Fuel] : Ok 89 (SS_z22z (@z22z _)) := okF_of std (.cons ok_z14z (.cons ok_net_key (.cons ok_z28z .nil))) ⟨rfl, rfl, by kernel_rfl, rfl, rfl, rfl⟩ (sm_z22z I_z22z) (cutsL (fun _ => rfl) (.cons lf_z22z_L4 (.cons lf_z22z_L25 .nil)) (by kernel_rfl)) Tryz.func89 (by kernel_rfl) (by kernel_rfl)
abbrev T_z61z : Type 1 := List G_Deed → Int → {R : Type} → (Int → Option R) → (List G_Deed → List G_Contact → List (List UInt8) → List Int → List (G_net_own × Bool) → Int → Option R) → Option R
structure C_z61z where
 N : Nat
 z49z : T_z49z
 z22z : T_z22z
def z61z_ (g : C_z61z) (a1 : List G_Deed) (a2 : Int) {R : Type} (k0 : Int → Option R) (k1 : List G_Deed → List G_Contact → List (List UInt8) → List Int → List (G_net_own × Bool) → Int → Option R) : Option R :=
 (g.z49z a1 a2 (fun r3 => (bif (r3 != 0) then k0 r3 else (g.z22z a1 a2 (fun r4 => k0 r4) (fun r5 r6 r7 r8 r9 r10 => k1 r5 r6 r7 r8 r9 r10)))))
noncomputable def I_z61z [Fuel] : C_z61z := ⟨NN, @z49z _, @z22z _⟩
noncomputable def z61z [Fuel] : T_z61z := @z61z_ I_z61z
def SS_z61z (g : T_z61z) : Spec A := fun args => match args with | [.d (.sl 35 a1), .d (.int .i64 a2)] => fun k => g a1 a2 (fun z0 => k (.tup [.d (.lit (.pointer none)), .d (.int .i64 z0)]) [.undef, .undef]) (fun z0 z1 z2 z3 z4 z5 => k (.tup [.box [.arr 35 z0, .arr 33 z1, .arr 9 z2, .arr 3 z3, .mp 102 4 z4], .d (.int .i64 z5)]) [.undef, .undef]) | _ => fun _ => none
noncomputable def code_72 : Code := (Tryz.f72.body).getD .skip
noncomputable def E_z61z (g : C_z61z) : Env A := mkE [(64, SS_z49z g.z49z), (89, SS_z22z g.z22z)] [(15, [0, 1, 2, 3, 4, 5])] [] [] [] [] [] [] [] []
theorem sm_z61z (g : C_z61z) : Same (SS_z61z (@z61z_ g)) (abody (E_z61z g) Tryz.f72 code_72 6 [] [.asis, .asis] g.N) := by intro args; unfold SS_z61z; split; exact .inr fun R k => (by kernel_rfl); exact .inl fun R k => rfl
theorem ok_z61z [Fuel] : Ok 72 (SS_z61z (@z61z _)) := okF_of std (.cons ok_z49z (.cons ok_z22z .nil)) ⟨rfl, rfl, by kernel_rfl, rfl, rfl, rfl⟩ (sm_z61z I_z61z) (cuts0 (fun _ => rfl) (by kernel_rfl)) Tryz.func72 (by kernel_rfl) (by kernel_rfl)
abbrev T_z62z : Type 1 := {R : Type} → Option R
def z62z_ (g : Nat)  {R : Type}  : Option R :=
 none
noncomputable def z62z [Fuel] : T_z62z := @z62z_ NN
def SS_z62z (g : T_z62z) : Spec A := fun args => match args with | [.d (.lit (.pointer none))] => fun k => g | _ => fun _ => none
noncomputable def code_141 : Code := (Tryz.f141.body).getD .skip
noncomputable def E_z62z (g : Nat) : Env A := mkE [] [(6, [0])] [] [] [] [] [] [] [] []
noncomputable def cb_z62z_L3 : Code := sub [1, 1, 0, 1, 0, 0] code_141
theorem lf_z62z_L3 [Fuel] : LoopFine (E_z62z NN) NN cb_z62z_L3 := no_loop (by kernel_rfl)
theorem sm_z62z (g : Nat) : Same (SS_z62z (@z62z_ g)) (abody (E_z62z g) Tryz.f141 code_141 1 [] [.asis] g) := by intro args; unfold SS_z62z; split; exact .inr fun R k => (by kernel_rfl); exact .inl fun R k => rfl
theorem ok_z62z [Fuel] : Ok 141 (SS_z62z (@z62z _)) := okF_of std .nil ⟨rfl, rfl, by kernel_rfl, rfl, rfl, rfl⟩ (sm_z62z NN) (cutsL (fun _ => rfl) (.cons lf_z62z_L3 .nil) (by kernel_rfl)) Tryz.func141 (by kernel_rfl) (by kernel_rfl)
abbrev T_z50z : Type 1 := {R : Type} → Option R
structure C_z50z where
 N : Nat
 z62z : T_z62z
def z50z_ (g : C_z50z)  {R : Type}  : Option R :=
 (g.z62z)
noncomputable def I_z50z [Fuel] : C_z50z := ⟨NN, @z62z _⟩
noncomputable def z50z [Fuel] : T_z50z := @z50z_ I_z50z
def SS_z50z (g : T_z50z) : Spec A := fun args => match args with | [.d (.lit (.pointer none))] => fun k => g | _ => fun _ => none
noncomputable def code_98 : Code := (Tryz.f98.body).getD .skip
noncomputable def E_z50z (g : C_z50z) : Env A := mkE [(141, SS_z62z g.z62z)] [] [] [] [] [] [] [] [] []
noncomputable def cb_z50z_L3 : Code := sub [1, 1, 0, 1, 0, 0] code_98
theorem lf_z50z_L3 [Fuel] : LoopFine (E_z50z I_z50z) NN cb_z50z_L3 := no_loop (by kernel_rfl)
theorem sm_z50z (g : C_z50z) : Same (SS_z50z (@z50z_ g)) (abody (E_z50z g) Tryz.f98 code_98 0 [] [.asis, .asis] g.N) := by intro args; unfold SS_z50z; split; exact .inr fun R k => (by kernel_rfl); exact .inl fun R k => rfl
theorem ok_z50z [Fuel] : Ok 98 (SS_z50z (@z50z _)) := okF_of std (.cons ok_z62z .nil) ⟨rfl, rfl, by kernel_rfl, rfl, rfl, rfl⟩ (sm_z50z I_z50z) (cutsL (fun _ => rfl) (.cons lf_z50z_L3 .nil) (by kernel_rfl)) Tryz.func98 (by kernel_rfl) (by kernel_rfl)
abbrev T_z25z : Type 1 := List G_Deed → List G_Contact → List (List UInt8) → List Int → List (G_net_own × Bool) → {R : Type} → (List (Int × Int) → List G_Deed → List G_Contact → List (List UInt8) → List Int → List (G_net_own × Bool) → Option R) → Option R
def z25z_L3 (g : Nat) : Nat → Int → Int → List (G_net_own × Bool) → List (Int × Int) → List G_Deed → List G_Contact → List (List UInt8) → List Int → {R : Type} → (List (G_net_own × Bool) → List (Int × Int) → List G_Deed → List G_Contact → List (List UInt8) → List Int → Option R) → Option R
 | 0, _, _, _, _, _, _, _, _, _, _ => none
 | n + 1, v6, v7, v8, v9, v10, v11, v12, v13, _, e0 => (bif (decide (v7 < v6)) then (inr v11 v7 (at_ v11 v7 fun x15 => (bif (decide (x15.f_Sent > 0)) then z25z_L3 g n v6 (w64 (v7 + 1)) v8 (mset_int_int x15.f_Sent (w64 (((mget_int_int x15.f_Sent v9).getD 0) + 1)) v9) v10 v11 v12 v13 e0 else z25z_L3 g n v6 (w64 (v7 + 1)) v8 v9 v10 v11 v12 v13 e0))) else e0 v8 v9 v10 v11 v12 v13)
def z25z_ (g : Nat) (a1 : List G_Deed) (a2 : List G_Contact) (a3 : List (List UInt8)) (a4 : List Int) (a5 : List (G_net_own × Bool)) {R : Type} (k0 : List (Int × Int) → List G_Deed → List G_Contact → List (List UInt8) → List Int → List (G_net_own × Bool) → Option R) : Option R :=
 (z25z_L3 g g (a2.length : Int) 0 a5 [] a1 a2 a3 a4 (fun e16 e17 e18 e19 e20 e21 => k0 e17 e18 e19 e20 e21 e16))
noncomputable def z25z [Fuel] : T_z25z := @z25z_ NN
def SS_z25z (g : T_z25z) : Spec A := fun args => match args with | [.box [.arr 35 a1, .arr 33 a2, .arr 9 a3, .arr 3 a4, .mp 102 4 a5]] => fun k => g a1 a2 a3 a4 a5 (fun z0 z1 z2 z3 z4 z5 => k (.mp 3 3 z0) [.box [.arr 35 z1, .arr 33 z2, .arr 9 z3, .arr 3 z4, .mp 102 4 z5]]) | _ => fun _ => none
def sh_z25z_L3 : SSt := mkSh 26 12 [(0, .ptr 0 0), (3, .mp 6), (10, .own 33 8), (11, .int .i64), (12, .int .i64)] [(0, .box [.own 35 7, .own 33 8, .own 9 9, .own 3 10, .mp 5]), (5, .mp 102 4), (6, .mp 3 3), (7, .row 35), (8, .row 33), (9, .row 9), (10, .row 3)]
def LP_z25z_L3 (g : Nat) (n : Nat) : LPT A := fun ps => match ps with | [.d (.int .i64 p1), .d (.int .i64 p2), .mp 102 4 p3, .mp 3 3 p4, .d (.sl 35 p5), .d (.sl 33 p6), .d (.sl 9 p7), .d (.sl 3 p8)] => fun K => z25z_L3 g n p1 p2 p3 p4 p5 p6 p7 p8 (fun z0 z1 z2 z3 z4 z5 => K (.exit 0) (mkSt 26 12 [(0, .ptr 0 0), (3, .mp 6)] [(0, some (.box [.own 35 7, .own 33 8, .own 9 9, .own 3 10, .mp 5])), (5, some (.mp 102 4 z0)), (6, some (.mp 3 3 z1)), (7, some (.row 35 z2)), (8, some (.row 33 z3)), (9, some (.row 9 z4)), (10, some (.row 3 z5))])) | _ => fun _ => none
noncomputable def E_z25z (g : Nat) : Env A := mkE [] [(5, [11]), (6, [6])] [(3, ⟨[0, 3, 10, 11, 12], [], [0, 5, 6], [(0, 0, 35, 7), (0, 1, 33, 8), (0, 2, 9, 9), (0, 3, 3, 10)], [], [], []⟩)] [(3, ⟨[0, 3], [], [0, 5, 6, 7, 8, 9, 10], [], [], [], []⟩)] [(3, pieceOf sh_z25z_L3 (LP_z25z_L3 g g))] [] [] [] [] [0]
theorem ct_z25z [Fuel] : NatTab (E_z25z NN).C := ct_of (P := Tryz.prog) (T := T) .nil (by kernel_rfl)
noncomputable def cb_z25z_L3 : Code := sub [1, 1, 0, 1, 0, 0] code_141
theorem s_z25z_L3 (g : Nat) (n : Nat) : StepOk (E_z25z g) g cb_z25z_L3 sh_z25z_L3 (LP_z25z_L3 g) n := by intro ps; unfold LP_z25z_L3; split; exact .inr fun R K => (by kernel_rfl); exact .inl fun R K => rfl
theorem lf_z25z_L3 [Fuel] : LoopFine (E_z25z NN) NN cb_z25z_L3 := fine_loop sh_z25z_L3 (LP_z25z_L3 NN) (by kernel_rfl) ct_z25z (cuts0 (fun _ => rfl) (by kernel_rfl)) (fun ps R K => by unfold LP_z25z_L3; split <;> (try unfold z25z_L3) <;> rfl) (s_z25z_L3 NN)
theorem sm_z25z (g : Nat) : Same (SS_z25z (@z25z_ g)) (abody (E_z25z g) Tryz.f141 code_141 12 [0, 1, 2, 3, 4, 5] [.asis] g) := by intro args; unfold SS_z25z; split; exact .inr fun R k => (by kernel_rfl); exact .inl fun R k => rfl
theorem ok_z25z [Fuel] : Ok 141 (SS_z25z (@z25z _)) := okF_of std .nil ⟨rfl, rfl, by kernel_rfl, rfl, rfl, rfl⟩ (sm_z25z NN) (cutsL (fun _ => rfl) (.cons lf_z25z_L3 .nil) (by kernel_rfl)) Tryz.func141 (by kernel_rfl) (by kernel_rfl)
abbrev T_z8z : Type 1 := List G_Deed → List G_Contact → List (List UInt8) → List Int → List (G_net_own × Bool) → {R : Type} → (List (Int × Int) → List G_Deed → List G_Contact → List (List UInt8) → List Int → List (G_net_own × Bool) → Option R) → Option R
noncomputable def z8z_L3 (g : Nat) : Nat → List (G_net_own × Bool) → List (G_net_own × Bool) → List (Int × Int) → List G_Deed → List G_Contact → List (List UInt8) → List Int → {R : Type} → (List (G_net_own × Bool) → List (Int × Int) → List G_Deed → List G_Contact → List (List UInt8) → List Int → Option R) → Option R
 | 0, _, _, _, _, _, _, _, _, _ => none
 | n + 1, m11, l12, v6, v7, v8, v9, v10, _, e0 => (pickAll l12 (e0 m11 v6 v7 v8 v9 v10) fun x15 l16 => z8z_L3 g n m11 l16 (mset_int_int x15.1.f_no (w64 (((mget_int_int x15.1.f_no v6).getD 0) + 1)) v6) v7 v8 v9 v10 e0)
noncomputable def raw_z8z (g : Nat) (a1 : List G_Deed) (a2 : List G_Contact) (a3 : List (List UInt8)) (a4 : List Int) (a5 : List (G_net_own × Bool)) {R : Type} (k0 : List (Int × Int) → List G_Deed → List G_Contact → List (List UInt8) → List Int → List (G_net_own × Bool) → Option R) : Option R :=
 (z8z_L3 g g a5 a5 [] a1 a2 a3 a4 (fun e17 e18 e19 e20 e21 e22 => k0 e18 e19 e20 e21 e22 e17))
def dec0_z8z (p : IV A × List (IV A)) : Option ((List (Int × Int)) × (List G_Deed) × (List G_Contact) × (List (List UInt8)) × (List Int) × (List (G_net_own × Bool))) := match p with | (.mp 3 3 b1, [.box [.arr 35 b2, .arr 33 b3, .arr 9 b4, .arr 3 b5, .mp 102 4 b6]]) => some (b1, b2, b3, b4, b5, b6) | _ => none
def inj0_z8z (q : (List (Int × Int)) × (List G_Deed) × (List G_Contact) × (List (List UInt8)) × (List Int) × (List (G_net_own × Bool))) : IV A × List (IV A) := (.mp 3 3 q.1, [.box [.arr 35 q.2.1, .arr 33 q.2.2.1, .arr 9 q.2.2.2.1, .arr 3 q.2.2.2.2.1, .mp 102 4 q.2.2.2.2.2]])
theorem hi0_z8z (p : IV A × List (IV A)) (q : (List (Int × Int)) × (List G_Deed) × (List G_Contact) × (List (List UInt8)) × (List Int) × (List (G_net_own × Bool))) (h : dec0_z8z p = some q) : p = inj0_z8z q := by unfold dec0_z8z at h; split at h; (cases h; rfl); cases h
noncomputable def z8z_ (g : Nat) (a1 : List G_Deed) (a2 : List G_Contact) (a3 : List (List UInt8)) (a4 : List Int) (a5 : List (G_net_own × Bool)) {R : Type} (k0 : List (Int × Int) → List G_Deed → List G_Contact → List (List UInt8) → List Int → List (G_net_own × Bool) → Option R) : Option R :=
 (raw_z8z g a1 a2 a3 a4 a5 (fun z0 z1 z2 z3 z4 z5 => some (inj0_z8z (z0, z1, z2, z3, z4, z5)))).bind fun p => (decK dec0_z8z p (fun q => k0 q.1 q.2.1 q.2.2.1 q.2.2.2.1 q.2.2.2.2.1 q.2.2.2.2.2) none)
noncomputable def z8z [Fuel] : T_z8z := @z8z_ NN
def SS_z8z (g : T_z8z) : Spec A := fun args => match args with | [.box [.arr 35 a1, .arr 33 a2, .arr 9 a3, .arr 3 a4, .mp 102 4 a5]] => fun k => g a1 a2 a3 a4 a5 (fun z0 z1 z2 z3 z4 z5 => k (.mp 3 3 z0) [.box [.arr 35 z1, .arr 33 z2, .arr 9 z3, .arr 3 z4, .mp 102 4 z5]]) | _ => fun _ => none
def sh_z8z_L3 : SSt := mkSh 21 12 [(0, .ptr 0 0), (3, .mp 6), (9, .mp 5)] [(0, .box [.own 35 7, .own 33 8, .own 9 9, .own 3 10, .mp 5]), (5, .gone (2, 0)), (6, .mp 3 3), (7, .row 35), (8, .row 33), (9, .row 9), (10, .row 3)]
noncomputable def LP_z8z_L3 (g : Nat) (n : Nat) (m l : List (A 102 × A 4)) : LPT A := fun ps => match ps with | [.mp 3 3 p1, .d (.sl 35 p2), .d (.sl 33 p3), .d (.sl 9 p4), .d (.sl 3 p5)] => fun K => z8z_L3 g n m l p1 p2 p3 p4 p5 (fun z0 z1 z2 z3 z4 z5 => K .normal (mkSt 21 12 [(0, .ptr 0 0), (3, .mp 6)] [(0, some (.box [.own 35 7, .own 33 8, .own 9 9, .own 3 10, .mp 5])), (5, some (.mp 102 4 z0)), (6, some (.mp 3 3 z1)), (7, some (.row 35 z2)), (8, some (.row 33 z3)), (9, some (.row 9 z4)), (10, some (.row 3 z5))])) | _ => fun _ => none
noncomputable def code_142 : Code := (Tryz.f142.body).getD .skip
noncomputable def E_z8z (g : Nat) : Env A := mkE [] [(4, [11]), (5, [6])] [(3, ⟨[0, 3, 9], [], [0, 5, 6], [(0, 0, 35, 7), (0, 1, 33, 8), (0, 2, 9, 9), (0, 3, 3, 10)], [], [], []⟩)] [(3, ⟨[0, 3], [], [0, 5, 6, 7, 8, 9, 10], [], [], [], []⟩)] [] [] [] [] [] [0]
noncomputable def CR_z8z (g : Nat) : Nat → Option (PieceR A) := fun i => List.lookup i [(3, pieceR 5 102 4 sh_z8z_L3 (LP_z8z_L3 g g))]
theorem ct_z8z [Fuel] : NatTab (E_z8z NN).C := ct_of (P := Tryz.prog) (T := T) .nil (by kernel_rfl)
noncomputable def rp_z8z_L3 : RangeP := (rangeOf (sub [1, 1, 0, 0] code_142) (sub [1, 1, 0, 1] code_142)).get (by kernel_rfl)
theorem s_z8z_L3 (g : Nat) (n : Nat) : RStepOk (E_z8z g) g rp_z8z_L3 5 102 4 sh_z8z_L3 (LP_z8z_L3 g) n := by intro m l ps; unfold LP_z8z_L3; split; exact .inr fun R K => (by kernel_rfl); exact .inl fun R K => rfl
theorem lf_z8z_L3 [Fuel] : ROk (E_z8z NN) (CR_z8z NN) NN rp_z8z_L3 := fine_range sh_z8z_L3 (LP_z8z_L3 NN) (by kernel_rfl) (cuts0 (fun _ => rfl) (by kernel_rfl)) (fun m l ps R K => by unfold LP_z8z_L3; split <;> (try unfold z8z_L3) <;> rfl) (s_z8z_L3 NN)
theorem sm_z8z (g : Nat) : Same (SS_z8z (@raw_z8z g)) (abodyR (E_z8z g) (CR_z8z g) Tryz.f142 code_142 12 [0, 1, 2, 3, 4, 5] [.asis] g) := by intro args; unfold SS_z8z; split; exact .inr fun R k => (by kernel_rfl); exact .inl fun R k => rfl
theorem wh_z8z (g : Nat) : Whole (SS_z8z (@z8z_ g)) (SS_z8z (@raw_z8z g)) := by
 intro args R k res h
 unfold SS_z8z at h
 split at h
 ·obtain ⟨p, hp, h⟩ := Option.bind_eq_some_iff.1 h
  exact ⟨p, hp, (decK_hc (inj := inj0_z8z) hi0_z8z (fun h => (by cases h)) h)⟩
 ·cases h
theorem nx_z8z (g : Nat) : NatSpec (SS_z8z (@z8z_ g)) := by
 intro args R k
 unfold SS_z8z
 split
 ·unfold z8z_
  rw [Option.bind_assoc]
  exact congrArg (Option.bind _) (funext fun p => (decK_na (inj := inj0_z8z) rfl))
 ·rfl
theorem ok_z8z [Fuel] : Ok 142 (SS_z8z (@z8z _)) := okR_of std .nil ⟨rfl, rfl, by kernel_rfl, rfl, rfl, rfl⟩ (sm_z8z NN) (wh_z8z NN) (nx_z8z NN) (cutsR (fun _ => rfl) .nil (.cons lf_z8z_L3 .nil) (by kernel_rfl) (by kernel_rfl)) Tryz.func142 (by kernel_rfl) (by kernel_rfl)
abbrev T_z17z : Type 1 := List G_Deed → List G_Contact → List (List UInt8) → List Int → List (G_net_own × Bool) → {R : Type} → (Int → Int → List G_Deed → List G_Contact → List (List UInt8) → List Int → List (G_net_own × Bool) → Option R) → Option R
structure C_z17z where
 N : Nat
 z25z : T_z25z
 z8z : T_z8z
def z17z_L3 (g : C_z17z) : Nat → Int → List (Int × Int) → List (G_net_own × Bool) → List (Int × Int) → List G_Deed → List G_Contact → List (List UInt8) → List Int → {R : Type} → (Int → Int → List (G_net_own × Bool) → List G_Deed → List G_Contact → List (List UInt8) → List Int → Option R) → (List (G_net_own × Bool) → List G_Deed → List G_Contact → List (List UInt8) → List Int → Option R) → Option R
 | 0, _, _, _, _, _, _, _, _, _, _, _ => none
 | n + 1, v18, v19, v20, v21, v22, v23, v24, v25, _, e0, e1 => (bif (decide (v18 ≤ 99999)) then (bif (((mget_int_int v18 v19).getD 0) == 0) then (bif (((mget_int_int v18 v21).getD 0) == 0) then e0 v18 0 v20 v22 v23 v24 v25 else z17z_L3 g n (w64 (v18 + 1)) v19 v20 v21 v22 v23 v24 v25 e0 e1) else z17z_L3 g n (w64 (v18 + 1)) v19 v20 v21 v22 v23 v24 v25 e0 e1) else e1 v20 v22 v23 v24 v25)
def z17z_ (g : C_z17z) (a1 : List G_Deed) (a2 : List G_Contact) (a3 : List (List UInt8)) (a4 : List Int) (a5 : List (G_net_own × Bool)) {R : Type} (k0 : Int → Int → List G_Deed → List G_Contact → List (List UInt8) → List Int → List (G_net_own × Bool) → Option R) : Option R :=
 (g.z25z a1 a2 a3 a4 a5 (fun r6 r7 r8 r9 r10 r11 => (g.z8z r7 r8 r9 r10 r11 (fun r12 r13 r14 r15 r16 r17 => (z17z_L3 g g.N 1 r6 r17 r12 r13 r14 r15 r16 (fun e26 e27 e28 e29 e30 e31 e32 => k0 e26 e27 e29 e30 e31 e32 e28) (fun e33 e34 e35 e36 e37 => k0 0 12 e34 e35 e36 e37 e33))))))
noncomputable def I_z17z [Fuel] : C_z17z := ⟨NN, @z25z _, @z8z _⟩
noncomputable def z17z [Fuel] : T_z17z := @z17z_ I_z17z
def p_z17z (args : List (IV A)) : Bool := match args with | [.box [.arr 35 _, .arr 33 _, .arr 9 _, .arr 3 _, .mp 102 4 _]] => true | _ => false
def SS_z17z (g : T_z17z) : Spec A := fun args => match args with | [.box [.arr 35 a1, .arr 33 a2, .arr 9 a3, .arr 3 a4, .mp 102 4 a5]] => fun k => g a1 a2 a3 a4 a5 (fun z0 z1 z2 z3 z4 z5 z6 => k (.tup [.d (.int .i64 z0), .d (.int .i64 z1)]) [.box [.arr 35 z2, .arr 33 z3, .arr 9 z4, .arr 3 z5, .mp 102 4 z6]]) | _ => fun _ => none
def sh_z17z_L3 : SSt := mkSh 26 22 [(0, .ptr 0 0), (4, .mp 11), (5, .mp 17), (6, .int .i64)] [(0, .box [.own 35 18, .own 33 19, .own 9 20, .own 3 21, .mp 16]), (11, .mp 3 3), (16, .mp 102 4), (17, .mp 3 3), (18, .row 35), (19, .row 33), (20, .row 9), (21, .row 3)]
def LP_z17z_L3 (g : C_z17z) (n : Nat) : LPT A := fun ps => match ps with | [.d (.int .i64 p1), .mp 3 3 p2, .mp 102 4 p3, .mp 3 3 p4, .d (.sl 35 p5), .d (.sl 33 p6), .d (.sl 9 p7), .d (.sl 3 p8)] => fun K => z17z_L3 g n p1 p2 p3 p4 p5 p6 p7 p8 (fun z0 z1 z2 z3 z4 z5 z6 => K .ret (mkSt 26 22 [(0, .ptr 0 0), (2, .d (.int .i64 z0)), (3, .d (.int .i64 z1))] [(0, some (.box [.own 35 18, .own 33 19, .own 9 20, .own 3 21, .mp 16])), (16, some (.mp 102 4 z2)), (18, some (.row 35 z3)), (19, some (.row 33 z4)), (20, some (.row 9 z5)), (21, some (.row 3 z6))])) (fun z0 z1 z2 z3 z4 => K (.exit 0) (mkSt 26 22 [(0, .ptr 0 0)] [(0, some (.box [.own 35 18, .own 33 19, .own 9 20, .own 3 21, .mp 16])), (16, some (.mp 102 4 z0)), (18, some (.row 35 z1)), (19, some (.row 33 z2)), (20, some (.row 9 z3)), (21, some (.row 3 z4))])) | _ => fun _ => none
noncomputable def E_z17z (g : C_z17z) : Env A := mkE [(141, SS_z25z g.z25z), (142, SS_z8z g.z8z)] [(8, [6, 7, 8, 9, 10, 11]), (10, [12, 13, 14, 15, 16, 17])] [(3, ⟨[0, 4, 5, 6], [], [0, 11, 16, 17], [(0, 0, 35, 18), (0, 1, 33, 19), (0, 2, 9, 20), (0, 3, 3, 21)], [], [], []⟩)] [(3, ⟨[0, 2, 3], [], [0, 16, 18, 19, 20, 21], [], [], [], []⟩)] [(3, pieceOf sh_z17z_L3 (LP_z17z_L3 g g.N))] [] [] [] [] [0]
theorem ct_z17z [Fuel] : NatTab (E_z17z I_z17z).C := ct_of (P := Tryz.prog) (T := T) (.cons ok_z25z (.cons ok_z8z .nil)) (by kernel_rfl)
noncomputable def cb_z17z_L3 : Code := sub [1, 1, 0, 1, 0, 0] code_98
theorem s_z17z_L3 (g : C_z17z) (n : Nat) : StepOk (E_z17z g) g.N cb_z17z_L3 sh_z17z_L3 (LP_z17z_L3 g) n := by intro ps; unfold LP_z17z_L3; split; exact .inr fun R K => (by kernel_rfl); exact .inl fun R K => rfl
theorem lf_z17z_L3 [Fuel] : LoopFine (E_z17z I_z17z) NN cb_z17z_L3 := fine_loop sh_z17z_L3 (LP_z17z_L3 I_z17z) (by kernel_rfl) ct_z17z (cuts0 (fun _ => rfl) (by kernel_rfl)) (fun ps R K => by unfold LP_z17z_L3; split <;> (try unfold z17z_L3) <;> rfl) (s_z17z_L3 I_z17z)
theorem sm_z17z (g : C_z17z) : Same (SS_z17z (@z17z_ g)) (abody (E_z17z g) Tryz.f98 code_98 22 [0, 1, 2, 3, 4, 5] [.asis, .asis] g.N) := by intro args; unfold SS_z17z; split; exact .inr fun R k => (by kernel_rfl); exact .inl fun R k => rfl
theorem ok_z17z [Fuel] : Ok 98 (SS_z17z (@z17z _)) := okF_of std (.cons ok_z25z (.cons ok_z8z .nil)) ⟨rfl, rfl, by kernel_rfl, rfl, rfl, rfl⟩ (sm_z17z I_z17z) (cutsL (fun _ => rfl) (.cons lf_z17z_L3 .nil) (by kernel_rfl)) Tryz.func98 (by kernel_rfl) (by kernel_rfl)
abbrev T_net_Next : Type 1 := List G_Deed → Int → {R : Type} → (Int → Int → Option R) → Option R
structure C_net_Next where
 N : Nat
 z61z : T_z61z
 z17z : T_z17z
 z50z : T_z50z
def net_Next_ (g : C_net_Next) (a1 : List G_Deed) (a2 : Int) {R : Type} (k0 : Int → Int → Option R) : Option R :=
 (g.z61z a1 a2 (fun r3 => (bif (r3 != 0) then k0 0 r3 else (g.z50z))) (fun r4 r5 r6 r7 r8 r9 => (bif (r9 != 0) then k0 0 r9 else (g.z17z r4 r5 r6 r7 r8 (fun r10 r11 r12 r13 r14 r15 r16 => k0 r10 r11)))))
noncomputable def I_net_Next [Fuel] : C_net_Next := ⟨NN, @z61z _, @z17z _, @z50z _⟩
noncomputable def net_Next [Fuel] : T_net_Next := @net_Next_ I_net_Next
def SS_net_Next (g : T_net_Next) : Spec A := fun args => match args with | [.d (.sl 35 a1), .d (.int .i64 a2)] => fun k => g a1 a2 (fun z0 z1 => k (.tup [.d (.int .i64 z0), .d (.int .i64 z1)]) [.undef, .undef]) | _ => fun _ => none
noncomputable def code_46 : Code := (Tryz.f46.body).getD .skip
noncomputable def E_net_Next (g : C_net_Next) : Env A := mkE [(72, SS_z61z g.z61z), (98, orS p_z17z (SS_z17z g.z17z) (SS_z50z g.z50z))] [(11, [0, 1, 2, 3, 4, 5]), (18, [6, 7, 8, 9, 10])] [] [] [] [] [] [] [] []
theorem sm_net_Next (g : C_net_Next) : Same (SS_net_Next (@net_Next_ g)) (abody (E_net_Next g) Tryz.f46 code_46 11 [] [.asis, .asis] g.N) := by intro args; unfold SS_net_Next; split; exact .inr fun R k => (by kernel_rfl); exact .inl fun R k => rfl
theorem ok_net_Next [Fuel] : Ok 46 (SS_net_Next (@net_Next _)) := okF_of std (.cons ok_z61z (.cons (ok_or p_z17z ok_z17z ok_z50z) .nil)) ⟨rfl, rfl, by kernel_rfl, rfl, rfl, rfl⟩ (sm_net_Next I_net_Next) (cuts0 (fun _ => rfl) (by kernel_rfl)) Tryz.func46 (by kernel_rfl) (by kernel_rfl)
abbrev T_law_netted : Type 1 := {R : Type} → (Bool → Option R) → Option R
structure C_law_netted where
 N : Nat
 net_Next : T_net_Next
def law_netted_ (g : C_law_netted)  {R : Type} (k0 : Bool → Option R) : Option R :=
 (g.net_Next [(⟨[97], 1, 0, 3, (⟨0, 0, [], [], 1, 0, [], []⟩ : G_Contact), [], [], 0⟩ : G_Deed)] 0 (fun r1 r2 => (bif (r2 == 0) then k0 (r1 == 2) else k0 false)))
noncomputable def I_law_netted [Fuel] : C_law_netted := ⟨NN, @net_Next _⟩
noncomputable def law_netted [Fuel] : T_law_netted := @law_netted_ I_law_netted
def SS_law_netted (g : T_law_netted) : Spec A := fun args => match args with | [] => fun k => g (fun z0 => k (.d (.bool z0)) []) | _ => fun _ => none
noncomputable def code_25 : Code := (Tryz.f25.body).getD .skip
noncomputable def E_law_netted (g : C_law_netted) : Env A := mkE [(46, SS_net_Next g.net_Next)] [(6, [0])] [] [] [] [] [] [] [] []
theorem sm_law_netted (g : C_law_netted) : Same (SS_law_netted (@law_netted_ g)) (abody (E_law_netted g) Tryz.f25 code_25 1 [] [.asis] g.N) := by intro args; unfold SS_law_netted; split; exact .inr fun R k => (by kernel_rfl); exact .inl fun R k => rfl
theorem ok_law_netted [Fuel] : Ok 25 (SS_law_netted (@law_netted _)) := okF_of std (.cons ok_net_Next .nil) ⟨rfl, rfl, by kernel_rfl, rfl, rfl, rfl⟩ (sm_law_netted I_law_netted) (cuts0 (fun _ => rfl) (by kernel_rfl)) Tryz.func25 (by kernel_rfl) (by kernel_rfl)
abbrev T_z36z : Type 1 := List Int → {R : Type} → (Bool → Option R) → Option R
def z36z_L4 (g : Nat) : Nat → List Int → Int → Int → {R : Type} → Option R → Option R
 | 0, _, _, _, _, _ => none
 | n + 1, v2, v3, v4, _, e0 => (bif (decide (v4 < v3)) then (get_ v2 v4 fun x6 => none) else e0)
def z36z_ (g : Nat) (a1 : List Int) {R : Type} (k0 : Bool → Option R) : Option R :=
 (bif ((a1.length : Int) != 0) then k0 false else (z36z_L4 g g a1 (a1.length : Int) 0 (k0 true)))
noncomputable def z36z [Fuel] : T_z36z := @z36z_ NN
def SS_z36z (g : T_z36z) : Spec A := fun args => match args with | [.d (.sl 3 a1), .d .nsl] => fun k => g a1 (fun z0 => k (.d (.bool z0)) [.undef, .undef]) | _ => fun _ => none
def sh_z36z_L4 : SSt := mkSh 26 0 [(0, .sl 3), (1, .nsl), (12, .int .i64), (13, .int .i64)] []
def LP_z36z_L4 (g : Nat) (n : Nat) : LPT A := fun ps => match ps with | [.d (.sl 3 p1), .d (.int .i64 p2), .d (.int .i64 p3)] => fun K => z36z_L4 g n p1 p2 p3 (K (.exit 0) (mkSt 26 0 [] [])) | _ => fun _ => none
noncomputable def E_z36z (g : Nat) : Env A := mkE [] [] [(4, ⟨[0, 1, 12, 13], [], [], [], [], [], []⟩)] [(4, ⟨[], [], [], [], [], [], []⟩)] [(4, pieceOf sh_z36z_L4 (LP_z36z_L4 g g))] [] [] [] [] []
theorem ct_z36z [Fuel] : NatTab (E_z36z NN).C := ct_of (P := Tryz.prog) (T := T) .nil (by kernel_rfl)
noncomputable def cb_z36z_L4 : Code := sub [1, 1, 0, 1, 0, 0] code_22
theorem s_z36z_L4 (g : Nat) (n : Nat) : StepOk (E_z36z g) g cb_z36z_L4 sh_z36z_L4 (LP_z36z_L4 g) n := by intro ps; unfold LP_z36z_L4; split; exact .inr fun R K => (by kernel_rfl); exact .inl fun R K => rfl
theorem lf_z36z_L4 [Fuel] : LoopFine (E_z36z NN) NN cb_z36z_L4 := fine_loop sh_z36z_L4 (LP_z36z_L4 NN) (by kernel_rfl) ct_z36z (cuts0 (fun _ => rfl) (by kernel_rfl)) (fun ps R K => by unfold LP_z36z_L4; split <;> (try unfold z36z_L4) <;> rfl) (s_z36z_L4 NN)
theorem sm_z36z (g : Nat) : Same (SS_z36z (@z36z_ g)) (abody (E_z36z g) Tryz.f22 code_22 0 [] [.asis] g) := by intro args; unfold SS_z36z; split; exact .inr fun R k => (by kernel_rfl); exact .inl fun R k => rfl
theorem ok_z36z [Fuel] : Ok 22 (SS_z36z (@z36z _)) := okF_of std .nil ⟨rfl, rfl, by kernel_rfl, rfl, rfl, rfl⟩ (sm_z36z NN) (cutsL (fun _ => rfl) (.cons lf_z36z_L4 .nil) (by kernel_rfl)) Tryz.func22 (by kernel_rfl) (by kernel_rfl)
end Go.Am
