/- The functions of the program as Lean functions, each shown to be what the code computes, part 6. No condition: lemmas for the claim. -/
import Derived.Test.YtdpapgakljjnnaaGreatDoorF0
import Derived.Test.YtdpapgakljjnnaaGreatDoorFSh
import Derived.Test.YtdpapgakljjnnaaGreatDoorF2
import Derived.Test.YtdpapgakljjnnaaGreatDoorF4
import Derived.Test.YtdpapgakljjnnaaGreatDoorF5
set_option linter.unusedVariables false
set_option maxRecDepth 100000
namespace Go.Am
open Go Go.Proofs
abbrev T_net_Merge : Type 1 := List G_Deed → List G_Deed → {R : Type} → (List G_Deed → Int → Option R) → Option R
structure C_net_Merge where
 N : Nat
 z7z : T_z7z
 z13z : T_z13z
 z27z : T_z27z
def net_Merge_L2 (g : C_net_Merge) : Nat → List G_Deed → List G_Deed → Int → Int → List (List G_Deed) → {R : Type} → (List G_Deed → List G_Deed → Int → Option R) → (List G_Deed → List G_Deed → Option R) → Option R
 | 0, _, _, _, _, _, _, _, _ => none
 | n + 1, v3, v4, v5, v6, v7, _, e0, e1 => (bif (decide (v6 < v5)) then (inr v7 v6 (at_ v7 v6 fun x10 => (g.z7z x10 (fun r11 => (bif (r11 != 0) then e0 v3 v4 r11 else net_Merge_L2 g n v3 v4 v5 (w64 (v6 + 1)) v7 e0 e1))))) else e1 v3 v4)
def net_Merge_L11 (g : C_net_Merge) : Nat → Int → Int → List (G_net_own × G_Deed) → List G_Deed → List G_Deed → {R : Type} → (Int → List G_Deed → Option R) → (List G_Deed → Option R) → Option R
 | 0, _, _, _, _, _, _, _, _ => none
 | n + 1, v18, v19, v20, v21, v22, _, e0, e1 => (bif (decide (v19 < v18)) then (inr v21 v19 (at_ v21 v19 fun x24 => (bif (!(mget_net_own_Deed (⟨x24.f_Site, x24.f_No⟩ : G_net_own) v20).isSome) then (bif (decide ((v22.length + [x24].length) * 176 ≤ roomBytes')) then net_Merge_L11 g n v18 (w64 (v19 + 1)) (mset_net_own_Deed (⟨x24.f_Site, x24.f_No⟩ : G_net_own) x24 v20) v21 (v22 ++ [x24]) e0 e1 else none) else (bif (!(eq_G_Deed (⟨((mget_net_own_Deed (⟨x24.f_Site, x24.f_No⟩ : G_net_own) v20).getD (⟨[], 0, 0, 0, (⟨0, 0, [], [], 0, 0, [], []⟩ : G_Contact), [], [], 0⟩ : G_Deed)).f_Site, ((mget_net_own_Deed (⟨x24.f_Site, x24.f_No⟩ : G_net_own) v20).getD (⟨[], 0, 0, 0, (⟨0, 0, [], [], 0, 0, [], []⟩ : G_Contact), [], [], 0⟩ : G_Deed)).f_No, ((mget_net_own_Deed (⟨x24.f_Site, x24.f_No⟩ : G_net_own) v20).getD (⟨[], 0, 0, 0, (⟨0, 0, [], [], 0, 0, [], []⟩ : G_Contact), [], [], 0⟩ : G_Deed)).f_At, ((mget_net_own_Deed (⟨x24.f_Site, x24.f_No⟩ : G_net_own) v20).getD (⟨[], 0, 0, 0, (⟨0, 0, [], [], 0, 0, [], []⟩ : G_Contact), [], [], 0⟩ : G_Deed)).f_Kind, (⟨((mget_net_own_Deed (⟨x24.f_Site, x24.f_No⟩ : G_net_own) v20).getD (⟨[], 0, 0, 0, (⟨0, 0, [], [], 0, 0, [], []⟩ : G_Contact), [], [], 0⟩ : G_Deed)).f_Contact.f_At, ((mget_net_own_Deed (⟨x24.f_Site, x24.f_No⟩ : G_net_own) v20).getD (⟨[], 0, 0, 0, (⟨0, 0, [], [], 0, 0, [], []⟩ : G_Contact), [], [], 0⟩ : G_Deed)).f_Contact.f_Mode, ((mget_net_own_Deed (⟨x24.f_Site, x24.f_No⟩ : G_net_own) v20).getD (⟨[], 0, 0, 0, (⟨0, 0, [], [], 0, 0, [], []⟩ : G_Contact), [], [], 0⟩ : G_Deed)).f_Contact.f_Band, ((mget_net_own_Deed (⟨x24.f_Site, x24.f_No⟩ : G_net_own) v20).getD (⟨[], 0, 0, 0, (⟨0, 0, [], [], 0, 0, [], []⟩ : G_Contact), [], [], 0⟩ : G_Deed)).f_Contact.f_Call, ((mget_net_own_Deed (⟨x24.f_Site, x24.f_No⟩ : G_net_own) v20).getD (⟨[], 0, 0, 0, (⟨0, 0, [], [], 0, 0, [], []⟩ : G_Contact), [], [], 0⟩ : G_Deed)).f_Contact.f_Sent, ((mget_net_own_Deed (⟨x24.f_Site, x24.f_No⟩ : G_net_own) v20).getD (⟨[], 0, 0, 0, (⟨0, 0, [], [], 0, 0, [], []⟩ : G_Contact), [], [], 0⟩ : G_Deed)).f_Contact.f_Heard, ((mget_net_own_Deed (⟨x24.f_Site, x24.f_No⟩ : G_net_own) v20).getD (⟨[], 0, 0, 0, (⟨0, 0, [], [], 0, 0, [], []⟩ : G_Contact), [], [], 0⟩ : G_Deed)).f_Contact.f_Gave, ((mget_net_own_Deed (⟨x24.f_Site, x24.f_No⟩ : G_net_own) v20).getD (⟨[], 0, 0, 0, (⟨0, 0, [], [], 0, 0, [], []⟩ : G_Contact), [], [], 0⟩ : G_Deed)).f_Contact.f_Got⟩ : G_Contact), ((mget_net_own_Deed (⟨x24.f_Site, x24.f_No⟩ : G_net_own) v20).getD (⟨[], 0, 0, 0, (⟨0, 0, [], [], 0, 0, [], []⟩ : G_Contact), [], [], 0⟩ : G_Deed)).f_Band, ((mget_net_own_Deed (⟨x24.f_Site, x24.f_No⟩ : G_net_own) v20).getD (⟨[], 0, 0, 0, (⟨0, 0, [], [], 0, 0, [], []⟩ : G_Contact), [], [], 0⟩ : G_Deed)).f_Of, ((mget_net_own_Deed (⟨x24.f_Site, x24.f_No⟩ : G_net_own) v20).getD (⟨[], 0, 0, 0, (⟨0, 0, [], [], 0, 0, [], []⟩ : G_Contact), [], [], 0⟩ : G_Deed)).f_Other⟩ : G_Deed) x24)) then e0 13 v22 else net_Merge_L11 g n v18 (w64 (v19 + 1)) v20 v21 v22 e0 e1)))) else e1 v22)
def net_Merge_ (g : C_net_Merge) (a1 a2 : List G_Deed) {R : Type} (k0 : List G_Deed → Int → Option R) : Option R :=
 (net_Merge_L2 g g.N a1 a2 ([a1, a2].length : Int) 0 [a1, a2] (fun e12 e13 e14 => k0 [] e14) (fun e15 e16 => (g.z13z [e15, e16] (fun r17 => (net_Merge_L11 g g.N (r17.length : Int) 0 [] r17 [] (fun e25 e26 => k0 [] e25) (fun e27 => (bif (decide ((e27.length : Int) > 2000)) then k0 [] 2 else (g.z27z e27 (fun r28 => k0 r28 0)))))))))
noncomputable def I_net_Merge [Fuel] : C_net_Merge := ⟨NN, @z7z _, @z13z _, @z27z _⟩
noncomputable def net_Merge [Fuel] : T_net_Merge := @net_Merge_ I_net_Merge
def SS_net_Merge (g : T_net_Merge) : Spec A := fun args => match args with | [.d (.sl 35 a1), .d (.sl 35 a2)] => fun k => g a1 a2 (fun z0 z1 => k (.tup [.arr 35 z0, .d (.int .i64 z1)]) [.undef, .undef]) | _ => fun _ => none
def sh_net_Merge_L2 : SSt := mkSh 72 10 [(0, .sl 35), (1, .sl 35), (18, .own 26 0), (19, .int .i64), (20, .int .i64)] [(0, .row 26)]
def LP_net_Merge_L2 (g : C_net_Merge) (n : Nat) : LPT A := fun ps => match ps with | [.d (.sl 35 p1), .d (.sl 35 p2), .d (.int .i64 p3), .d (.int .i64 p4), .d (.sl 26 p5)] => fun K => net_Merge_L2 g n p1 p2 p3 p4 p5 (fun z0 z1 z2 => K .ret (mkSt 72 10 [(0, .d (.sl 35 z0)), (1, .d (.sl 35 z1)), (4, .d .nsl), (5, .d (.int .i64 z2))] [])) (fun z0 z1 => K (.exit 0) (mkSt 72 10 [(0, .d (.sl 35 z0)), (1, .d (.sl 35 z1))] [])) | _ => fun _ => none
def sh_net_Merge_L11 : SSt := mkSh 72 10 [(9, .mp 1), (10, .own 35 4), (34, .own 35 3), (35, .int .i64), (36, .int .i64)] [(1, .mp 102 35), (3, .row 35), (4, .row 35)]
def LP_net_Merge_L11 (g : C_net_Merge) (n : Nat) : LPT A := fun ps => match ps with | [.d (.int .i64 p1), .d (.int .i64 p2), .mp 102 35 p3, .d (.sl 35 p4), .d (.sl 35 p5)] => fun K => net_Merge_L11 g n p1 p2 p3 p4 p5 (fun z0 z1 => K .ret (mkSt 72 10 [(4, .d .nsl), (5, .d (.int .i64 z0)), (10, .own 35 4)] [(4, some (.row 35 z1))])) (fun z0 => K (.exit 2) (mkSt 72 10 [(10, .own 35 4)] [(4, some (.row 35 z0))])) | _ => fun _ => none
noncomputable def code_14 : Code := (Tryz.f14.body).getD .skip
noncomputable def E_net_Merge (g : C_net_Merge) : Env A := mkE [(20, SS_z7z g.z7z), (61, SS_z13z g.z13z), (62, SS_z27z g.z27z)] [(12, [5]), (13, [6]), (14, [7]), (18, [0]), (30, [1]), (33, [2]), (34, [3]), (59, [8]), (60, [9])] [(2, ⟨[0, 1, 18, 19, 20], [], [0], [], [], [], []⟩), (11, ⟨[9, 10, 34, 35, 36], [(10, 35, 4)], [1, 3], [], [], [], []⟩)] [(2, ⟨[0, 1, 4, 5], [], [], [], [], [], []⟩), (11, ⟨[4, 5, 10], [], [4], [], [], [], []⟩)] [(2, pieceOf sh_net_Merge_L2 (LP_net_Merge_L2 g g.N)), (11, pieceOf sh_net_Merge_L11 (LP_net_Merge_L11 g g.N))] [] [] [] [(62, 0)] []
theorem ct_net_Merge [Fuel] : NatTab (E_net_Merge I_net_Merge).C := ct_of (P := Tryz.prog) (T := T) (.cons ok_z7z (.cons ok_z13z (.cons ok_z27z .nil))) (by kernel_rfl)
noncomputable def cb_net_Merge_L2 : Code := sub [1, 0, 1, 0, 0] code_14
theorem s_net_Merge_L2 (g : C_net_Merge) (n : Nat) : StepOk (E_net_Merge g) g.N cb_net_Merge_L2 sh_net_Merge_L2 (LP_net_Merge_L2 g) n := by intro ps; unfold LP_net_Merge_L2; split; exact .inr fun R K => (by kernel_rfl); exact .inl fun R K => rfl
theorem lf_net_Merge_L2 [Fuel] : LoopFine (E_net_Merge I_net_Merge) NN cb_net_Merge_L2 := fine_loop sh_net_Merge_L2 (LP_net_Merge_L2 I_net_Merge) (by kernel_rfl) ct_net_Merge (cuts0 (fun _ => rfl) (by kernel_rfl)) (fun ps R K => by unfold LP_net_Merge_L2; split <;> (try unfold net_Merge_L2) <;> rfl) (s_net_Merge_L2 I_net_Merge)
noncomputable def cb_net_Merge_L11 : Code := sub [1, 1, 1, 1, 0, 1, 0, 0] code_14
theorem s_net_Merge_L11 (g : C_net_Merge) (n : Nat) : StepOk (E_net_Merge g) g.N cb_net_Merge_L11 sh_net_Merge_L11 (LP_net_Merge_L11 g) n := by intro ps; unfold LP_net_Merge_L11; split; exact .inr fun R K => (by kernel_rfl); exact .inl fun R K => rfl
theorem lf_net_Merge_L11 [Fuel] : LoopFine (E_net_Merge I_net_Merge) NN cb_net_Merge_L11 := fine_loop sh_net_Merge_L11 (LP_net_Merge_L11 I_net_Merge) (by kernel_rfl) ct_net_Merge (cuts0 (fun _ => rfl) (by kernel_rfl)) (fun ps R K => by unfold LP_net_Merge_L11; split <;> (try unfold net_Merge_L11) <;> rfl) (s_net_Merge_L11 I_net_Merge)
theorem sm_net_Merge (g : C_net_Merge) : Same (SS_net_Merge (@net_Merge_ g)) (abody (E_net_Merge g) Tryz.f14 code_14 10 [] [.arr 35, .asis] g.N) := by intro args; unfold SS_net_Merge; split; exact .inr fun R k => (by kernel_rfl); exact .inl fun R k => rfl
theorem ok_net_Merge [Fuel] : Ok 14 (SS_net_Merge (@net_Merge _)) := okF_of std (.cons ok_z7z (.cons ok_z13z (.cons ok_z27z .nil))) ⟨rfl, rfl, by kernel_rfl, rfl, rfl, rfl⟩ (sm_net_Merge I_net_Merge) (cutsL (fun _ => rfl) (.cons lf_net_Merge_L2 (.cons lf_net_Merge_L11 .nil)) (by kernel_rfl)) Tryz.func14 (by kernel_rfl) (by kernel_rfl)
abbrev T_z49z : Type 1 := List G_Deed → Int → {R : Type} → (Int → Option R) → Option R
structure C_z49z where
 N : Nat
 z7z : T_z7z
 z47z : T_z47z
def z49z_ (g : C_z49z) (a1 : List G_Deed) (a2 : Int) {R : Type} (k0 : Int → Option R) : Option R :=
 (g.z7z a1 (fun r3 => (bif (r3 != 0) then k0 r3 else (g.z47z a2 (fun r4 => (bif (!r4) then k0 1 else k0 0))))))
noncomputable def I_z49z [Fuel] : C_z49z := ⟨NN, @z7z _, @z47z _⟩
noncomputable def z49z [Fuel] : T_z49z := @z49z_ I_z49z
def SS_z49z (g : T_z49z) : Spec A := fun args => match args with | [.d (.sl 35 a1), .d (.int .i64 a2)] => fun k => g a1 a2 (fun z0 => k (.d (.int .i64 z0)) [.undef, .undef]) | _ => fun _ => none
noncomputable def code_64 : Code := (Tryz.f64.body).getD .skip
noncomputable def E_z49z (g : C_z49z) : Env A := mkE [(20, SS_z7z g.z7z), (94, SS_z47z g.z47z)] [] [] [] [] [] [] [] [] []
theorem sm_z49z (g : C_z49z) : Same (SS_z49z (@z49z_ g)) (abody (E_z49z g) Tryz.f64 code_64 0 [] [.asis] g.N) := by intro args; unfold SS_z49z; split; exact .inr fun R k => (by kernel_rfl); exact .inl fun R k => rfl
theorem ok_z49z [Fuel] : Ok 64 (SS_z49z (@z49z _)) := okF_of std (.cons ok_z7z (.cons ok_z47z .nil)) ⟨rfl, rfl, by kernel_rfl, rfl, rfl, rfl⟩ (sm_z49z I_z49z) (cuts0 (fun _ => rfl) (by kernel_rfl)) Tryz.func64 (by kernel_rfl) (by kernel_rfl)
abbrev T_z60z : Type 1 := List G_Deed → {R : Type} → (List G_Deed → Option R) → Option R
def z60z_ (g : Nat) (a1 : List G_Deed) {R : Type} (k0 : List G_Deed → Option R) : Option R :=
 k0 a1
noncomputable def z60z [Fuel] : T_z60z := @z60z_ NN
def SS_z60z (g : T_z60z) : Spec A := fun args => match args with | [.d (.sl 35 a1)] => fun k => g a1 (fun z0 => k (.fn 172 [.box [.d (.sl 35 z0)]]) [.undef]) | _ => fun _ => none
noncomputable def code_114 : Code := (Tryz.f114.body).getD .skip
noncomputable def E_z60z (g : Nat) : Env A := mkE [] [(1, [0])] [] [] [] [] [] [] [] []
theorem sm_z60z (g : Nat) : Same (SS_z60z (@z60z_ g)) (abody (E_z60z g) Tryz.f114 code_114 1 [] [.asis] g) := by intro args; unfold SS_z60z; split; exact .inr fun R k => (by kernel_rfl); exact .inl fun R k => rfl
theorem ok_z60z [Fuel] : Ok 114 (SS_z60z (@z60z _)) := okF_of std .nil ⟨rfl, rfl, by kernel_rfl, rfl, rfl, rfl⟩ (sm_z60z NN) (cuts0 (fun _ => rfl) (by kernel_rfl)) Tryz.func114 (by kernel_rfl) (by kernel_rfl)
abbrev T_z30z : Type 1 := List Int → {R : Type} → (List Int → Option R) → Option R
def z30z_L1 (g : Nat) : Nat → Int → Int → List Int → {R : Type} → (List Int → Option R) → Option R
 | 0, _, _, _, _, _ => none
 | n + 1, v2, v3, v4, _, e0 => (bif (decide (v2 < v3)) then (inr v4 v3 (at_ v4 v3 fun x9 => (inr v4 v2 (at_ v4 v2 fun x10 => (inr v4 v2 (at_ v4 v2 fun x11 => (inr (set_ v4 v2 x9) v3 (at_ (set_ v4 v2 x9) v3 fun x12 => z30z_L1 g n (w64 (v2 + 1)) (w64 (v3 - 1)) (set_ (set_ v4 v2 x9) v3 x10) e0)))))))) else e0 v4)
def z30z_ (g : Nat) (a1 : List Int) {R : Type} (k0 : List Int → Option R) : Option R :=
 (z30z_L1 g g 0 (w64 ((a1.length : Int) - 1)) a1 (fun e13 => k0 e13))
noncomputable def z30z [Fuel] : T_z30z := @z30z_ NN
def SS_z30z (g : T_z30z) : Spec A := fun args => match args with | [.arr 3 a1] => fun k => g a1 (fun z0 => k (.tup []) [.arr 3 z0]) | _ => fun _ => none
def sh_z30z_L1 : SSt := mkSh 28 1 [(0, .own 3 0), (2, .int .i64), (3, .int .i64)] [(0, .row 3)]
def LP_z30z_L1 (g : Nat) (n : Nat) : LPT A := fun ps => match ps with | [.d (.int .i64 p1), .d (.int .i64 p2), .d (.sl 3 p3)] => fun K => z30z_L1 g n p1 p2 p3 (fun z0 => K (.exit 0) (mkSt 28 1 [(0, .own 3 0)] [(0, some (.row 3 z0))])) | _ => fun _ => none
noncomputable def code_115 : Code := (Tryz.f115.body).getD .skip
noncomputable def E_z30z (g : Nat) : Env A := mkE [] [] [(1, ⟨[0, 2, 3], [], [0], [], [], [], []⟩)] [(1, ⟨[0], [], [0], [], [], [], []⟩)] [(1, pieceOf sh_z30z_L1 (LP_z30z_L1 g g))] [] [] [] [] [0]
theorem ct_z30z [Fuel] : NatTab (E_z30z NN).C := ct_of (P := Tryz.prog) (T := T) .nil (by kernel_rfl)
noncomputable def cb_z30z_L1 : Code := sub [1, 0, 0] code_115
theorem s_z30z_L1 (g : Nat) (n : Nat) : StepOk (E_z30z g) g cb_z30z_L1 sh_z30z_L1 (LP_z30z_L1 g) n := by intro ps; unfold LP_z30z_L1; split; exact .inr fun R K => (by kernel_rfl); exact .inl fun R K => rfl
theorem lf_z30z_L1 [Fuel] : LoopFine (E_z30z NN) NN cb_z30z_L1 := fine_loop sh_z30z_L1 (LP_z30z_L1 NN) (by kernel_rfl) ct_z30z (cuts0 (fun _ => rfl) (by kernel_rfl)) (fun ps R K => by unfold LP_z30z_L1; split <;> (try unfold z30z_L1) <;> rfl) (s_z30z_L1 NN)
theorem sm_z30z (g : Nat) : Same (SS_z30z (@z30z_ g)) (abody (E_z30z g) Tryz.f115 code_115 1 [0] [] g) := by intro args; unfold SS_z30z; split; exact .inr fun R k => (by kernel_rfl); exact .inl fun R k => rfl
theorem ok_z30z [Fuel] : Ok 115 (SS_z30z (@z30z _)) := okF_of std .nil ⟨rfl, rfl, by kernel_rfl, rfl, rfl, rfl⟩ (sm_z30z NN) (cutsL (fun _ => rfl) (.cons lf_z30z_L1 .nil) (by kernel_rfl)) Tryz.func115 (by kernel_rfl) (by kernel_rfl)
abbrev T_z14z : Type 1 := List G_Deed → Int → {R : Type} → (List Int → Option R) → Option R
structure C_z14z where
 N : Nat
 z60z : T_z60z
 z30z : T_z30z
def z14z_L6 (g : C_z14z) : Nat → List G_Deed → Int → List (G_net_own × Bool) → List Int → {R : Type} → (Int → List (G_net_own × Bool) → List Int → Option R) → Option R
 | 0, y0, y1, y2, y3, _, e0 => e0 y1 y2 y3
 | n + 1, l7, v4, v5, v6, _, e0 => (match l7[n]? with | none => none | some x8 => (bif (decide (x8.f_At > v4)) then z14z_L6 g n l7 v4 v5 v6 e0 else (bif ((mget_net_own_bool (⟨x8.f_Site, x8.f_No⟩ : G_net_own) v5).getD false) then z14z_L6 g n l7 v4 v5 v6 e0 else (bif (decide ((v6.length + [(n : Int)].length) * 8 ≤ roomBytes')) then (bif (x8.f_Kind == 5) then z14z_L6 g n l7 v4 (mset_net_own_bool (⟨x8.f_Of, x8.f_Other⟩ : G_net_own) true v5) (v6 ++ [(n : Int)]) e0 else z14z_L6 g n l7 v4 v5 (v6 ++ [(n : Int)]) e0) else none))))
noncomputable def raw_z14z (g : C_z14z) (a1 : List G_Deed) (a2 : Int) {R : Type} (k0 : List Int → Option R) : Option R :=
 (g.z60z a1 (fun r3 => (bif decide (r3.length < 4611686018427387904) then (z14z_L6 g r3.length r3 a2 [] [] (fun e9 e10 e11 => (g.z30z e11 (fun r12 => k0 r12)))) else none)))
def dec0_z14z (p : IV A × List (IV A)) : Option ((List Int)) := match p with | (.arr 3 b1, [.undef, .undef]) => some (b1) | _ => none
def inj0_z14z (q : (List Int)) : IV A × List (IV A) := (.arr 3 q, [.undef, .undef])
theorem hi0_z14z (p : IV A × List (IV A)) (q : (List Int)) (h : dec0_z14z p = some q) : p = inj0_z14z q := by unfold dec0_z14z at h; split at h; (cases h; rfl); cases h
noncomputable def z14z_ (g : C_z14z) (a1 : List G_Deed) (a2 : Int) {R : Type} (k0 : List Int → Option R) : Option R :=
 (raw_z14z g a1 a2 (fun z0 => some (inj0_z14z (z0)))).bind fun p => (decK dec0_z14z p (fun q => k0 q) none)
noncomputable def I_z14z [Fuel] : C_z14z := ⟨NN, @z60z _, @z30z _⟩
noncomputable def z14z [Fuel] : T_z14z := @z14z_ I_z14z
def SS_z14z (g : T_z14z) : Spec A := fun args => match args with | [.d (.sl 35 a1), .d (.int .i64 a2)] => fun k => g a1 a2 (fun z0 => k (.arr 3 z0) [.undef, .undef]) | _ => fun _ => none
def sh_z14z_L6 : SSt := mkSh 43 9 [(3, .ptr 0 0), (5, .ptr 2 0), (6, .ptr 3 0)] [(0, .box [.int .i64]), (1, .mp 102 4), (2, .box [.mp 1]), (3, .box [.own 3 5]), (5, .row 3)]
abbrev bw_z14z_L6 : Bw := ⟨172, 26, 35, 3, 4⟩
def LP_z14z_L6 (g : C_z14z) (n : Nat) (l : List (A (bw_z14z_L6).tE)) : LPT A := fun ps => match ps with | [.d (.int .i64 p1), .mp 102 4 p2, .d (.sl 3 p3)] => fun K => z14z_L6 g n l p1 p2 p3 (fun z0 z1 z2 => K .normal (mkSt 43 9 [(3, .ptr 0 0), (5, .ptr 2 0), (6, .ptr 3 0)] [(0, some (.box [.d (.int .i64 z0)])), (1, some (.mp 102 4 z1)), (2, some (.box [.mp 1])), (3, some (.box [.own 3 5])), (5, some (.row 3 z2))])) | _ => fun _ => none
noncomputable def code_65 : Code := (Tryz.f65.body).getD .skip
noncomputable def E_z14z (g : C_z14z) : Env A := mkE [(114, SS_z60z g.z60z), (115, SS_z30z g.z30z)] [(3, [0]), (5, [2]), (6, [3]), (8, [6]), (9, [1]), (11, [4]), (29, [7]), (30, [8])] [(6, ⟨[3, 5, 6], [], [0, 1, 2, 3], [(3, 0, 3, 5)], [], [], []⟩)] [(6, ⟨[3, 5, 6], [], [0, 1, 2, 3], [], [], [], []⟩)] [] [] [] [] [(115, 0)] []
noncomputable def CB_z14z (g : C_z14z) : Nat → Option (Nat → PieceB A (bw_z14z_L6).tE) := fun i => List.lookup i [(0, pieceB (bw_z14z_L6).tE sh_z14z_L6 (LP_z14z_L6 g))]
def kp_z14z : Nat → List Nat := fun i => (List.lookup i [(0, [3, 5, 6])]).getD []
theorem ct_z14z [Fuel] : NatTab (E_z14z I_z14z).C := ct_of (P := Tryz.prog) (T := T) (.cons ok_z60z (.cons ok_z30z .nil)) (by kernel_rfl)
noncomputable def bwp_z14z_L6 : BwP := (bwP Tryz.f172.body).get (by kernel_rfl)
theorem bwf_z14z_L6 : BwFine Tryz.prog T bw_z14z_L6 := ⟨bwOk_of (fn := Tryz.f172) Tryz.func172 bwp_z14z_L6 (by kernel_rfl) (by kernel_rfl) (by kernel_rfl) (by kernel_rfl) (by kernel_rfl) (by kernel_rfl) (by kernel_rfl) (by kernel_rfl) (by kernel_rfl), enters_of (fn := Tryz.f172) Tryz.func172 (by kernel_rfl) (by kernel_rfl), by kernel_rfl, by kernel_rfl, fun x => by kernel_rfl⟩
noncomputable def rp_z14z_L6 : RfP := (rfOf (sub [1, 1, 1, 0] code_65)).get (by kernel_rfl)
theorem z_z14z_L6 (g : C_z14z) : BZeroOk (bw_z14z_L6).tE sh_z14z_L6 (LP_z14z_L6 g) := by intro xs ps; unfold LP_z14z_L6; split; exact .inr fun R K => (by kernel_rfl); exact .inl fun R K => rfl
theorem s_z14z_L6 (g : C_z14z) (i : Nat) : BStepOk (E_z14z g) g.N (kp_z14z (rp_z14z_L6).B) rp_z14z_L6 (bw_z14z_L6).tE sh_z14z_L6 (LP_z14z_L6 g) i := by intro xs ps; unfold LP_z14z_L6; split; exact .inr fun R K => (by kernel_rfl); exact .inl fun R K => rfl
theorem lf_z14z_L6 [Fuel] : BOk (E_z14z I_z14z) bw_z14z_L6 (CB_z14z I_z14z) kp_z14z NN rp_z14z_L6 := fine_back sh_z14z_L6 (LP_z14z_L6 I_z14z) (by kernel_rfl) (cuts0 (fun _ => rfl) (by kernel_rfl)) (cuts0 (fun _ => rfl) (by kernel_rfl)) (z_z14z_L6 I_z14z) (s_z14z_L6 I_z14z)
theorem sm_z14z (g : C_z14z) : Same (SS_z14z (@raw_z14z g)) (abodyB (E_z14z g) bw_z14z_L6 (CB_z14z g) kp_z14z Tryz.f65 code_65 9 [] [.arr 3] g.N) := by intro args; unfold SS_z14z; split; exact .inr fun R k => (by kernel_rfl); exact .inl fun R k => rfl
theorem wh_z14z (g : C_z14z) : Whole (SS_z14z (@z14z_ g)) (SS_z14z (@raw_z14z g)) := by
 intro args R k res h
 unfold SS_z14z at h
 split at h
 ·obtain ⟨p, hp, h⟩ := Option.bind_eq_some_iff.1 h
  exact ⟨p, hp, (decK_hc (inj := inj0_z14z) hi0_z14z (fun h => (by cases h)) h)⟩
 ·cases h
theorem nx_z14z (g : C_z14z) : NatSpec (SS_z14z (@z14z_ g)) := by
 intro args R k
 unfold SS_z14z
 split
 ·unfold z14z_
  rw [Option.bind_assoc]
  exact congrArg (Option.bind _) (funext fun p => (decK_na (inj := inj0_z14z) rfl))
 ·rfl
theorem ok_z14z [Fuel] : Ok 65 (SS_z14z (@z14z _)) := okB_of std (.cons ok_z60z (.cons ok_z30z .nil)) ⟨rfl, rfl, by kernel_rfl, rfl, rfl, rfl⟩ bwf_z14z_L6 (sm_z14z I_z14z) (wh_z14z I_z14z) (nx_z14z I_z14z) (cutsB (fun _ => rfl) .nil (.cons lf_z14z_L6 .nil) (by kernel_rfl) (by kernel_rfl)) Tryz.func65 (by kernel_rfl) (by kernel_rfl)
abbrev T_z59z : Type 1 := List G_Deed → Int → {R : Type} → (List Int → Int → Option R) → Option R
structure C_z59z where
 N : Nat
 z49z : T_z49z
 z14z : T_z14z
def z59z_ (g : C_z59z) (a1 : List G_Deed) (a2 : Int) {R : Type} (k0 : List Int → Int → Option R) : Option R :=
 (g.z49z a1 a2 (fun r3 => (bif (r3 != 0) then k0 [] r3 else (g.z14z a1 a2 (fun r4 => k0 r4 0)))))
noncomputable def I_z59z [Fuel] : C_z59z := ⟨NN, @z49z _, @z14z _⟩
noncomputable def z59z [Fuel] : T_z59z := @z59z_ I_z59z
def SS_z59z (g : T_z59z) : Spec A := fun args => match args with | [.d (.sl 35 a1), .d (.int .i64 a2)] => fun k => g a1 a2 (fun z0 z1 => k (.tup [.arr 3 z0, .d (.int .i64 z1)]) [.undef, .undef]) | _ => fun _ => none
noncomputable def code_15 : Code := (Tryz.f15.body).getD .skip
noncomputable def E_z59z (g : C_z59z) : Env A := mkE [(64, SS_z49z g.z49z), (65, SS_z14z g.z14z)] [(15, [0])] [] [] [] [] [] [] [] []
theorem sm_z59z (g : C_z59z) : Same (SS_z59z (@z59z_ g)) (abody (E_z59z g) Tryz.f15 code_15 1 [] [.arr 3, .asis] g.N) := by intro args; unfold SS_z59z; split; exact .inr fun R k => (by kernel_rfl); exact .inl fun R k => rfl
theorem ok_z59z [Fuel] : Ok 15 (SS_z59z (@z59z _)) := okF_of std (.cons ok_z49z (.cons ok_z14z .nil)) ⟨rfl, rfl, by kernel_rfl, rfl, rfl, rfl⟩ (sm_z59z I_z59z) (cuts0 (fun _ => rfl) (by kernel_rfl)) Tryz.func15 (by kernel_rfl) (by kernel_rfl)
abbrev T_law_errs : Type 1 := List Int → {R : Type} → (Int → Option R) → Option R
def law_errs_L2 (g : Nat) : Nat → List Int → Int → Int → {R : Type} → (Int → Option R) → Option R → Option R
 | 0, _, _, _, _, _, _ => none
 | n + 1, v2, v3, v4, _, e0, e1 => (bif (decide (v4 < v3)) then (get_ v2 v4 fun x6 => (bif (x6 != 0) then e0 x6 else law_errs_L2 g n v2 v3 (w64 (v4 + 1)) e0 e1)) else e1)
def law_errs_ (g : Nat) (a1 : List Int) {R : Type} (k0 : Int → Option R) : Option R :=
 (law_errs_L2 g g a1 (a1.length : Int) 0 (fun e7 => k0 e7) (k0 0))
noncomputable def law_errs [Fuel] : T_law_errs := @law_errs_ NN
def SS_law_errs (g : T_law_errs) : Spec A := fun args => match args with | [.d (.sl 37 a1)] => fun k => g a1 (fun z0 => k (.d (.int .i64 z0)) [.undef]) | _ => fun _ => none
def sh_law_errs_L2 : SSt := mkSh 15 0 [(5, .sl 37), (6, .int .i64), (7, .int .i64)] []
def LP_law_errs_L2 (g : Nat) (n : Nat) : LPT A := fun ps => match ps with | [.d (.sl 37 p1), .d (.int .i64 p2), .d (.int .i64 p3)] => fun K => law_errs_L2 g n p1 p2 p3 (fun z0 => K .ret (mkSt 15 0 [(2, .d (.int .i64 z0))] [])) (K (.exit 0) (mkSt 15 0 [] [])) | _ => fun _ => none
noncomputable def code_16 : Code := (Tryz.f16.body).getD .skip
noncomputable def E_law_errs (g : Nat) : Env A := mkE [] [] [(2, ⟨[5, 6, 7], [], [], [], [], [], []⟩)] [(2, ⟨[2], [], [], [], [], [], []⟩)] [(2, pieceOf sh_law_errs_L2 (LP_law_errs_L2 g g))] [] [] [] [] []
theorem ct_law_errs [Fuel] : NatTab (E_law_errs NN).C := ct_of (P := Tryz.prog) (T := T) .nil (by kernel_rfl)
noncomputable def cb_law_errs_L2 : Code := sub [1, 0, 1, 0, 0] code_16
theorem s_law_errs_L2 (g : Nat) (n : Nat) : StepOk (E_law_errs g) g cb_law_errs_L2 sh_law_errs_L2 (LP_law_errs_L2 g) n := by intro ps; unfold LP_law_errs_L2; split; exact .inr fun R K => (by kernel_rfl); exact .inl fun R K => rfl
theorem lf_law_errs_L2 [Fuel] : LoopFine (E_law_errs NN) NN cb_law_errs_L2 := fine_loop sh_law_errs_L2 (LP_law_errs_L2 NN) (by kernel_rfl) ct_law_errs (cuts0 (fun _ => rfl) (by kernel_rfl)) (fun ps R K => by unfold LP_law_errs_L2; split <;> (try unfold law_errs_L2) <;> rfl) (s_law_errs_L2 NN)
theorem sm_law_errs (g : Nat) : Same (SS_law_errs (@law_errs_ g)) (abody (E_law_errs g) Tryz.f16 code_16 0 [] [.asis] g) := by intro args; unfold SS_law_errs; split; exact .inr fun R k => (by kernel_rfl); exact .inl fun R k => rfl
theorem ok_law_errs [Fuel] : Ok 16 (SS_law_errs (@law_errs _)) := okF_of std .nil ⟨rfl, rfl, by kernel_rfl, rfl, rfl, rfl⟩ (sm_law_errs NN) (cutsL (fun _ => rfl) (.cons lf_law_errs_L2 .nil) (by kernel_rfl)) Tryz.func16 (by kernel_rfl) (by kernel_rfl)
abbrev T_z54z : Type 1 := Int → {R : Type} → (Int → Option R) → Option R
structure C_z54z where
 N : Nat
 Q_Moment : T_Q_Moment
def z54z_ (g : C_z54z) (a1 : Int) {R : Type} (k0 : Int → Option R) : Option R :=
 (g.Q_Moment a1 (fun r2 => (bif (!r2) then k0 1 else k0 0)))
noncomputable def I_z54z [Fuel] : C_z54z := ⟨NN, @Q_Moment _⟩
noncomputable def z54z [Fuel] : T_z54z := @z54z_ I_z54z
def SS_z54z (g : T_z54z) : Spec A := fun args => match args with | [.d (.int .i64 a1)] => fun k => g a1 (fun z0 => k (.d (.int .i64 z0)) [.undef]) | _ => fun _ => none
noncomputable def code_17 : Code := (Tryz.f17.body).getD .skip
noncomputable def E_z54z (g : C_z54z) : Env A := mkE [(66, SS_Q_Moment g.Q_Moment)] [] [] [] [] [] [] [] [] []
theorem sm_z54z (g : C_z54z) : Same (SS_z54z (@z54z_ g)) (abody (E_z54z g) Tryz.f17 code_17 0 [] [.asis] g.N) := by intro args; unfold SS_z54z; split; exact .inr fun R k => (by kernel_rfl); exact .inl fun R k => rfl
theorem ok_z54z [Fuel] : Ok 17 (SS_z54z (@z54z _)) := okF_of std (.cons ok_Q_Moment .nil) ⟨rfl, rfl, by kernel_rfl, rfl, rfl, rfl⟩ (sm_z54z I_z54z) (cuts0 (fun _ => rfl) (by kernel_rfl)) Tryz.func17 (by kernel_rfl) (by kernel_rfl)
abbrev T_z23z : Type 1 := G_Deed → G_Deed → {R : Type} → (Bool → G_Deed → Option R) → Option R
structure C_z23z where
 N : Nat
 Q_sameNo : T_Q_sameNo
def z23z_ (g : C_z23z) (a1 a2 : G_Deed) {R : Type} (k0 : Bool → G_Deed → Option R) : Option R :=
 (g.Q_sameNo a1 a2 (fun r3 => k0 r3 a2))
noncomputable def I_z23z [Fuel] : C_z23z := ⟨NN, @Q_sameNo _⟩
noncomputable def z23z [Fuel] : T_z23z := @z23z_ I_z23z
def SS_z23z (g : T_z23z) : Spec A := fun args => match args with | [.agg [.d (.str a1), .d (.int .i64 a2), .d (.int .i64 a3), .d (.int .i64 a4), .d (.int .i64 a5), .d (.int .i64 a6), .d (.str a7), .d (.str a8), .d (.int .i64 a9), .d (.int .i64 a10), .d (.str a11), .d (.str a12), .d (.str a13), .d (.str a14), .d (.int .i64 a15)], .box [.d (.str a16), .d (.int .i64 a17), .d (.int .i64 a18), .d (.int .i64 a19), .d (.int .i64 a20), .d (.int .i64 a21), .d (.str a22), .d (.str a23), .d (.int .i64 a24), .d (.int .i64 a25), .d (.str a26), .d (.str a27), .d (.str a28), .d (.str a29), .d (.int .i64 a30)]] => fun k => g ⟨a1, a2, a3, a4, ⟨a5, a6, a7, a8, a9, a10, a11, a12⟩, a13, a14, a15⟩ ⟨a16, a17, a18, a19, ⟨a20, a21, a22, a23, a24, a25, a26, a27⟩, a28, a29, a30⟩ (fun z0 z1 => k (.d (.bool z0)) [.undef, .box [.d (.str z1.f_Site), .d (.int .i64 z1.f_No), .d (.int .i64 z1.f_At), .d (.int .i64 z1.f_Kind), .d (.int .i64 z1.f_Contact.f_At), .d (.int .i64 z1.f_Contact.f_Mode), .d (.str z1.f_Contact.f_Band), .d (.str z1.f_Contact.f_Call), .d (.int .i64 z1.f_Contact.f_Sent), .d (.int .i64 z1.f_Contact.f_Heard), .d (.str z1.f_Contact.f_Gave), .d (.str z1.f_Contact.f_Got), .d (.str z1.f_Band), .d (.str z1.f_Of), .d (.int .i64 z1.f_Other)]]) | _ => fun _ => none
noncomputable def code_68 : Code := (Tryz.f68.body).getD .skip
noncomputable def E_z23z (g : C_z23z) : Env A := mkE [(60, SS_Q_sameNo g.Q_sameNo)] [(2, [1])] [] [] [] [] [] [] [] [1]
theorem sm_z23z (g : C_z23z) : Same (SS_z23z (@z23z_ g)) (abody (E_z23z g) Tryz.f68 code_68 2 [0] [.asis] g.N) := by intro args; unfold SS_z23z; split; exact .inr fun R k => (by kernel_rfl); exact .inl fun R k => rfl
theorem ok_z23z [Fuel] : Ok 68 (SS_z23z (@z23z _)) := okF_of std (.cons ok_Q_sameNo .nil) ⟨rfl, rfl, by kernel_rfl, rfl, rfl, rfl⟩ (sm_z23z I_z23z) (cuts0 (fun _ => rfl) (by kernel_rfl)) Tryz.func68 (by kernel_rfl) (by kernel_rfl)
abbrev T_z6z : Type 1 := List G_Deed → G_Deed → {R : Type} → (Int → List G_Deed → G_Deed → Option R) → Option R
structure C_z6z where
 N : Nat
 z23z : T_z23z
def z6z_L2 (g : C_z6z) : Nat → Int → Int → List G_Deed → G_Deed → {R : Type} → (Int → List G_Deed → G_Deed → Option R) → (List G_Deed → G_Deed → Option R) → Option R
 | 0, _, _, _, _, _, _, _ => none
 | n + 1, v3, v4, v5, v6, _, e0, e1 => (bif (decide (v4 < v3)) then (inr v5 v4 (at_ v5 v4 fun x10 => (g.z23z x10 v6 (fun r11 r12 => (bif r11 then e0 v4 v5 r12 else z6z_L2 g n v3 (w64 (v4 + 1)) v5 r12 e0 e1))))) else e1 v5 v6)
def z6z_ (g : C_z6z) (a1 : List G_Deed) (a2 : G_Deed) {R : Type} (k0 : Int → List G_Deed → G_Deed → Option R) : Option R :=
 (z6z_L2 g g.N (a1.length : Int) 0 a1 a2 (fun e13 e14 e15 => k0 e13 e14 e15) (fun e16 e17 => k0 (-1) e16 e17))
noncomputable def I_z6z [Fuel] : C_z6z := ⟨NN, @z23z _⟩
noncomputable def z6z [Fuel] : T_z6z := @z6z_ I_z6z
def SS_z6z (g : T_z6z) : Spec A := fun args => match args with | [.arr 35 a1, .fn 68 [.box [.d (.str a2), .d (.int .i64 a3), .d (.int .i64 a4), .d (.int .i64 a5), .d (.int .i64 a6), .d (.int .i64 a7), .d (.str a8), .d (.str a9), .d (.int .i64 a10), .d (.int .i64 a11), .d (.str a12), .d (.str a13), .d (.str a14), .d (.str a15), .d (.int .i64 a16)]]] => fun k => g a1 ⟨a2, a3, a4, a5, ⟨a6, a7, a8, a9, a10, a11, a12, a13⟩, a14, a15, a16⟩ (fun z0 z1 z2 => k (.d (.int .i64 z0)) [.arr 35 z1, .fn 68 [.box [.d (.str z2.f_Site), .d (.int .i64 z2.f_No), .d (.int .i64 z2.f_At), .d (.int .i64 z2.f_Kind), .d (.int .i64 z2.f_Contact.f_At), .d (.int .i64 z2.f_Contact.f_Mode), .d (.str z2.f_Contact.f_Band), .d (.str z2.f_Contact.f_Call), .d (.int .i64 z2.f_Contact.f_Sent), .d (.int .i64 z2.f_Contact.f_Heard), .d (.str z2.f_Contact.f_Gave), .d (.str z2.f_Contact.f_Got), .d (.str z2.f_Band), .d (.str z2.f_Of), .d (.int .i64 z2.f_Other)]]]) | _ => fun _ => none
def sh_z6z_L2 : SSt := mkSh 19 2 [(0, .own 35 0), (1, .fn 68 [.ptr 1 0]), (7, .int .i64), (8, .int .i64)] [(0, .row 35), (1, .box [.str, .int .i64, .int .i64, .int .i64, .int .i64, .int .i64, .str, .str, .int .i64, .int .i64, .str, .str, .str, .str, .int .i64])]
def LP_z6z_L2 (g : C_z6z) (n : Nat) : LPT A := fun ps => match ps with | [.d (.int .i64 p1), .d (.int .i64 p2), .d (.sl 35 p3), .d (.str p4), .d (.int .i64 p5), .d (.int .i64 p6), .d (.int .i64 p7), .d (.int .i64 p8), .d (.int .i64 p9), .d (.str p10), .d (.str p11), .d (.int .i64 p12), .d (.int .i64 p13), .d (.str p14), .d (.str p15), .d (.str p16), .d (.str p17), .d (.int .i64 p18)] => fun K => z6z_L2 g n p1 p2 p3 ⟨p4, p5, p6, p7, ⟨p8, p9, p10, p11, p12, p13, p14, p15⟩, p16, p17, p18⟩ (fun z0 z1 z2 => K .ret (mkSt 19 2 [(0, .own 35 0), (1, .fn 68 [.ptr 1 0]), (4, .d (.int .i64 z0))] [(0, some (.row 35 z1)), (1, some (.box [.d (.str z2.f_Site), .d (.int .i64 z2.f_No), .d (.int .i64 z2.f_At), .d (.int .i64 z2.f_Kind), .d (.int .i64 z2.f_Contact.f_At), .d (.int .i64 z2.f_Contact.f_Mode), .d (.str z2.f_Contact.f_Band), .d (.str z2.f_Contact.f_Call), .d (.int .i64 z2.f_Contact.f_Sent), .d (.int .i64 z2.f_Contact.f_Heard), .d (.str z2.f_Contact.f_Gave), .d (.str z2.f_Contact.f_Got), .d (.str z2.f_Band), .d (.str z2.f_Of), .d (.int .i64 z2.f_Other)]))])) (fun z0 z1 => K (.exit 0) (mkSt 19 2 [(0, .own 35 0), (1, .fn 68 [.ptr 1 0])] [(0, some (.row 35 z0)), (1, some (.box [.d (.str z1.f_Site), .d (.int .i64 z1.f_No), .d (.int .i64 z1.f_At), .d (.int .i64 z1.f_Kind), .d (.int .i64 z1.f_Contact.f_At), .d (.int .i64 z1.f_Contact.f_Mode), .d (.str z1.f_Contact.f_Band), .d (.str z1.f_Contact.f_Call), .d (.int .i64 z1.f_Contact.f_Sent), .d (.int .i64 z1.f_Contact.f_Heard), .d (.str z1.f_Contact.f_Gave), .d (.str z1.f_Contact.f_Got), .d (.str z1.f_Band), .d (.str z1.f_Of), .d (.int .i64 z1.f_Other)]))])) | _ => fun _ => none
noncomputable def E_z6z (g : C_z6z) : Env A := mkE [(68, SS_z23z g.z23z)] [] [(2, ⟨[0, 1, 7, 8], [], [0, 1], [], [], [], []⟩)] [(2, ⟨[0, 1, 4], [], [0, 1], [], [], [], []⟩)] [(2, pieceOf sh_z6z_L2 (LP_z6z_L2 g g.N))] [] [] [] [] [0, 1]
theorem ct_z6z [Fuel] : NatTab (E_z6z I_z6z).C := ct_of (P := Tryz.prog) (T := T) (.cons ok_z23z .nil) (by kernel_rfl)
noncomputable def cb_z6z_L2 : Code := sub [1, 0, 1, 0, 0] code_67
theorem s_z6z_L2 (g : C_z6z) (n : Nat) : StepOk (E_z6z g) g.N cb_z6z_L2 sh_z6z_L2 (LP_z6z_L2 g) n := by intro ps; unfold LP_z6z_L2; split; exact .inr fun R K => (by kernel_rfl); exact .inl fun R K => rfl
theorem lf_z6z_L2 [Fuel] : LoopFine (E_z6z I_z6z) NN cb_z6z_L2 := fine_loop sh_z6z_L2 (LP_z6z_L2 I_z6z) (by kernel_rfl) ct_z6z (cuts0 (fun _ => rfl) (by kernel_rfl)) (fun ps R K => by unfold LP_z6z_L2; split <;> (try unfold z6z_L2) <;> rfl) (s_z6z_L2 I_z6z)
theorem sm_z6z (g : C_z6z) : Same (SS_z6z (@z6z_ g)) (abody (E_z6z g) Tryz.f67 code_67 2 [0, 1] [.asis] g.N) := by intro args; unfold SS_z6z; split; exact .inr fun R k => (by kernel_rfl); exact .inl fun R k => rfl
theorem ok_z6z [Fuel] : Ok 67 (SS_z6z (@z6z _)) := okF_of std (.cons ok_z23z .nil) ⟨rfl, rfl, by kernel_rfl, rfl, rfl, rfl⟩ (sm_z6z I_z6z) (cutsL (fun _ => rfl) (.cons lf_z6z_L2 .nil) (by kernel_rfl)) Tryz.func67 (by kernel_rfl) (by kernel_rfl)
abbrev T_z26z : Type 1 := List G_Deed → {R : Type} → (List G_Deed → Option R) → Option R
noncomputable def z26z [Fuel] : T_z26z := @X_sortf G_Deed (@z2z _)
def SS_z26z (g : T_z26z) : Spec A := fun args => match args with | [.arr 35 a1, .fn 55 []] => fun k => g a1 (fun z => k (.tup []) [.arr 35 z, .fn 55 []]) | _ => fun _ => none
theorem h1_z26z [Fuel] (xs : List (A 35)) (R : Type) (k : IV A → List (IV A) → Option R) : SS_z26z (@z26z _) [.arr 35 xs, .fn 55 []] k = X_sortf (α := A 35) (@z2z _) xs (fun z => k (.tup []) [.arr 35 z, .fn 55 []]) := by kernel_rfl
theorem h2_z26z [Fuel] (args : List (IV A)) (R : Type) (k : IV A → List (IV A) → Option R) (h : ∀ xs : List (A 35), args ≠ [.arr 35 xs, .fn 55 []]) : SS_z26z (@z26z _) args k = none := by unfold SS_z26z; split; exact absurd rfl (h _); rfl
theorem hc_z26z [Fuel] (x y : A 35) (R : Type) (k : Int → Option R) : callOf T (SS_z2z (@z2z _)) 35 x y k = @z2z _ x y R k := by kernel_rfl
theorem hs_z26z (x : G_Deed) : (enc_e35 x).all scal = true := rfl
theorem ok_z26z [Fuel] : Ok 62 (SS_z26z (@z26z _)) := ⟨sortf_sound (tyOk Tryz.prog) (e := 35) Tryz.sortf62 Tryz.isAgg35 Tryz.sizeOf35 (fun x d hd => List.all_eq_true.1 (hs_z26z x) d hd) hc_z26z okd_z2z.fs okd_z2z.en h1_z26z h2_z26z, sortf_na (e := 35) h1_z26z h2_z26z, enters_of (fn := Tryz.f62) Tryz.func62 (by kernel_rfl) (by kernel_rfl)⟩
abbrev T_Q_DeedsOf : Type 1 := List G_Deed → List G_Deed → {R : Type} → (List G_Deed → Int → Option R) → Option R
structure C_Q_DeedsOf where
 N : Nat
 z33z : T_z33z
 z26z : T_z26z
 z6z : T_z6z
def Q_DeedsOf_L3 (g : C_Q_DeedsOf) : Nat → List G_Deed → Int → Int → List G_Deed → {R : Type} → (Int → List G_Deed → Option R) → (List G_Deed → Option R) → Option R
 | 0, _, _, _, _, _, _, _ => none
 | n + 1, v4, v5, v6, v7, _, e0, e1 => (bif (decide (v6 < v5)) then (get_ v4 v6 fun x13 => (g.z6z v7 x13 (fun r14 r15 r16 => (bif (decide (r14 < 0)) then (bif (decide ((r15.length + [r16].length) * 176 ≤ roomBytes')) then Q_DeedsOf_L3 g n v4 v5 (w64 (v6 + 1)) (r15 ++ [r16]) e0 e1 else none) else (inr r15 r14 (at_ r15 r14 fun x17 => (bif (!(eq_G_Deed x17 r16)) then e0 13 r15 else Q_DeedsOf_L3 g n v4 v5 (w64 (v6 + 1)) r15 e0 e1))))))) else e1 v7)
def Q_DeedsOf_ (g : C_Q_DeedsOf) (a1 a2 : List G_Deed) {R : Type} (k0 : List G_Deed → Int → Option R) : Option R :=
 (g.z33z a1 (fun r3 => (Q_DeedsOf_L3 g g.N a2 (a2.length : Int) 0 r3 (fun e18 e19 => k0 [] e18) (fun e20 => (g.z26z e20 (fun r21 => (bif (decide ((r21.length : Int) > 2000)) then k0 [] 2 else k0 r21 0)))))))
noncomputable def I_Q_DeedsOf [Fuel] : C_Q_DeedsOf := ⟨NN, @z33z _, @z26z _, @z6z _⟩
noncomputable def Q_DeedsOf [Fuel] : T_Q_DeedsOf := @Q_DeedsOf_ I_Q_DeedsOf
def SS_Q_DeedsOf (g : T_Q_DeedsOf) : Spec A := fun args => match args with | [.d (.sl 35 a1), .d (.sl 35 a2)] => fun k => g a1 a2 (fun z0 z1 => k (.tup [.arr 35 z0, .d (.int .i64 z1)]) [.undef, .undef]) | _ => fun _ => none
def sh_Q_DeedsOf_L3 : SSt := mkSh 40 5 [(6, .own 35 1), (12, .sl 35), (13, .int .i64), (14, .int .i64)] [(1, .row 35)]
def LP_Q_DeedsOf_L3 (g : C_Q_DeedsOf) (n : Nat) : LPT A := fun ps => match ps with | [.d (.sl 35 p1), .d (.int .i64 p2), .d (.int .i64 p3), .d (.sl 35 p4)] => fun K => Q_DeedsOf_L3 g n p1 p2 p3 p4 (fun z0 z1 => K .ret (mkSt 40 5 [(4, .d .nsl), (5, .d (.int .i64 z0)), (6, .own 35 1)] [(1, some (.row 35 z1))])) (fun z0 => K (.exit 0) (mkSt 40 5 [(6, .own 35 1)] [(1, some (.row 35 z0))])) | _ => fun _ => none
noncomputable def code_18 : Code := (Tryz.f18.body).getD .skip
noncomputable def E_Q_DeedsOf (g : C_Q_DeedsOf) : Env A := mkE [(11, SS_z33z g.z33z), (62, SS_z26z g.z26z), (67, SS_z6z g.z6z)] [(8, [2]), (11, [0]), (25, [3]), (26, [4])] [(3, ⟨[6, 12, 13, 14], [(6, 35, 1)], [], [], [], [], []⟩)] [(3, ⟨[4, 5, 6], [], [1], [], [], [], []⟩)] [(3, pieceOf sh_Q_DeedsOf_L3 (LP_Q_DeedsOf_L3 g g.N))] [] [] [] [(62, 0), (67, 0)] []
theorem ct_Q_DeedsOf [Fuel] : NatTab (E_Q_DeedsOf I_Q_DeedsOf).C := ct_of (P := Tryz.prog) (T := T) (.cons ok_z33z (.cons ok_z26z (.cons ok_z6z .nil))) (by kernel_rfl)
noncomputable def cb_Q_DeedsOf_L3 : Code := sub [1, 1, 0, 1, 0, 0] code_18
theorem s_Q_DeedsOf_L3 (g : C_Q_DeedsOf) (n : Nat) : StepOk (E_Q_DeedsOf g) g.N cb_Q_DeedsOf_L3 sh_Q_DeedsOf_L3 (LP_Q_DeedsOf_L3 g) n := by intro ps; unfold LP_Q_DeedsOf_L3; split; exact .inr fun R K => (by kernel_rfl); exact .inl fun R K => rfl
theorem lf_Q_DeedsOf_L3 [Fuel] : LoopFine (E_Q_DeedsOf I_Q_DeedsOf) NN cb_Q_DeedsOf_L3 := fine_loop sh_Q_DeedsOf_L3 (LP_Q_DeedsOf_L3 I_Q_DeedsOf) (by kernel_rfl) ct_Q_DeedsOf (cuts0 (fun _ => rfl) (by kernel_rfl)) (fun ps R K => by unfold LP_Q_DeedsOf_L3; split <;> (try unfold Q_DeedsOf_L3) <;> rfl) (s_Q_DeedsOf_L3 I_Q_DeedsOf)
theorem sm_Q_DeedsOf (g : C_Q_DeedsOf) : Same (SS_Q_DeedsOf (@Q_DeedsOf_ g)) (abody (E_Q_DeedsOf g) Tryz.f18 code_18 5 [] [.arr 35, .asis] g.N) := by intro args; unfold SS_Q_DeedsOf; split; exact .inr fun R k => (by kernel_rfl); exact .inl fun R k => rfl
theorem ok_Q_DeedsOf [Fuel] : Ok 18 (SS_Q_DeedsOf (@Q_DeedsOf _)) := okF_of std (.cons ok_z33z (.cons ok_z26z (.cons ok_z6z .nil))) ⟨rfl, rfl, by kernel_rfl, rfl, rfl, rfl⟩ (sm_Q_DeedsOf I_Q_DeedsOf) (cutsL (fun _ => rfl) (.cons lf_Q_DeedsOf_L3 .nil) (by kernel_rfl)) Tryz.func18 (by kernel_rfl) (by kernel_rfl)
end Go.Am
