/- The functions of the program as Lean functions, each shown to be what the code computes, part 10. No condition: lemmas for the claim. -/
import Derived.Test.YtjnhihfahcoekaaGreatDoorF0
import Derived.Test.YtjnhihfahcoekaaGreatDoorFSh
import Derived.Test.YtjnhihfahcoekaaGreatDoorF1
import Derived.Test.YtjnhihfahcoekaaGreatDoorF4
import Derived.Test.YtjnhihfahcoekaaGreatDoorF5
import Derived.Test.YtjnhihfahcoekaaGreatDoorF7
import Derived.Test.YtjnhihfahcoekaaGreatDoorF9
set_option linter.unusedVariables false
set_option maxRecDepth 100000
namespace Go.Am
open Go Go.Proofs
abbrev T_net_formed : Type 1 := G_Deed → {R : Type} → (Int → Option R) → Option R
structure C_net_formed where
 N : Nat
 z45z : T_z45z
 kit_IsKey : T_kit_IsKey
 z62z : T_z62z
 z85z : T_z85z
 net_idle : T_net_idle
def net_formed_ (g : C_net_formed) (a1 : G_Deed) {R : Type} (k0 : Int → Option R) : Option R :=
 (g.kit_IsKey a1.f_Site (fun r2 => (bif (!r2) then k0 5 else (g.z45z a1.f_No 1 1000000 (fun r3 => (bif r3 then k0 1 else (g.z62z a1.f_At (fun r4 => (bif (!r4) then k0 1 else (g.z45z a1.f_Kind 1 5 (fun r5 => (bif r5 then k0 4 else (g.z85z a1 (fun r6 => (bif (r6 != 0) then k0 r6 else (g.net_idle a1 (fun r7 => (bif (!r7) then k0 3 else k0 0))))))))))))))))))
noncomputable def I_net_formed [Fuel] : C_net_formed := ⟨NN, @z45z _, @kit_IsKey _, @z62z _, @z85z _, @net_idle _⟩
noncomputable def net_formed [Fuel] : T_net_formed := @net_formed_ I_net_formed
def SS_net_formed (g : T_net_formed) : Spec A := fun args => match args with | [.agg [.d (.str a1), .d (.int .i64 a2), .d (.int .i64 a3), .d (.int .i64 a4), .d (.int .i64 a5), .d (.int .i64 a6), .d (.str a7), .d (.str a8), .d (.int .i64 a9), .d (.int .i64 a10), .d (.str a11), .d (.str a12), .d (.str a13), .d (.str a14), .d (.int .i64 a15)]] => fun k => g ⟨a1, a2, a3, a4, ⟨a5, a6, a7, a8, a9, a10, a11, a12⟩, a13, a14, a15⟩ (fun z0 => k (.d (.int .i64 z0)) [.undef]) | _ => fun _ => none
noncomputable def code_156 : Code := (Tryz.f156.body).getD .skip
noncomputable def E_net_formed (g : C_net_formed) : Env A := mkE [(28, SS_z45z g.z45z), (58, SS_kit_IsKey g.kit_IsKey), (60, SS_z62z g.z62z), (183, SS_z85z g.z85z), (184, SS_net_idle g.net_idle)] [(1, [0])] [] [] [] [] [] [] [] []
theorem sm_net_formed (g : C_net_formed) : Same (SS_net_formed (@net_formed_ g)) (abody (E_net_formed g) Tryz.f156 code_156 1 [] [.asis] g.N) := by intro args; unfold SS_net_formed; split; exact .inr fun R k => (by kernel_rfl); exact .inl fun R k => rfl
theorem ok_net_formed [Fuel] : Ok 156 (SS_net_formed (@net_formed _)) := okF_of std (.cons ok_z45z (.cons ok_kit_IsKey (.cons ok_z62z (.cons ok_z85z (.cons ok_net_idle .nil))))) ⟨rfl, rfl, by kernel_rfl, rfl, rfl, rfl⟩ (sm_net_formed I_net_formed) (cuts0 (fun _ => rfl) (by kernel_rfl)) Tryz.func156 (by kernel_rfl) (by kernel_rfl)
abbrev T_z89z : Type 1 := G_Deed → G_Deed → {R : Type} → (Int → Option R) → Option R
structure C_z89z where
 N : Nat
 z29z : T_z29z
 z33z : T_z33z
 strings_Compare : T_strings_Compare
def z89z_ (g : C_z89z) (a1 a2 : G_Deed) {R : Type} (k0 : Int → Option R) : Option R :=
 (g.z33z a1.f_At a2.f_At (fun r3 => (g.strings_Compare a1.f_Site a2.f_Site (fun r4 => (g.z33z a1.f_No a2.f_No (fun r5 => (g.z29z [r3, r4, r5] (fun r6 => k0 r6))))))))
noncomputable def I_z89z [Fuel] : C_z89z := ⟨NN, @z29z _, @z33z _, @strings_Compare _⟩
noncomputable def z89z [Fuel] : T_z89z := @z89z_ I_z89z
def SS_z89z (g : T_z89z) : Spec A := fun args => match args with | [.agg [.d (.str a1), .d (.int .i64 a2), .d (.int .i64 a3), .d (.int .i64 a4), .d (.int .i64 a5), .d (.int .i64 a6), .d (.str a7), .d (.str a8), .d (.int .i64 a9), .d (.int .i64 a10), .d (.str a11), .d (.str a12), .d (.str a13), .d (.str a14), .d (.int .i64 a15)], .agg [.d (.str a16), .d (.int .i64 a17), .d (.int .i64 a18), .d (.int .i64 a19), .d (.int .i64 a20), .d (.int .i64 a21), .d (.str a22), .d (.str a23), .d (.int .i64 a24), .d (.int .i64 a25), .d (.str a26), .d (.str a27), .d (.str a28), .d (.str a29), .d (.int .i64 a30)]] => fun k => g ⟨a1, a2, a3, a4, ⟨a5, a6, a7, a8, a9, a10, a11, a12⟩, a13, a14, a15⟩ ⟨a16, a17, a18, a19, ⟨a20, a21, a22, a23, a24, a25, a26, a27⟩, a28, a29, a30⟩ (fun z0 => k (.d (.int .i64 z0)) [.undef, .undef]) | _ => fun _ => none
noncomputable def code_157 : Code := (Tryz.f157.body).getD .skip
noncomputable def E_z89z (g : C_z89z) : Env A := mkE [(49, SS_z29z g.z29z), (50, SS_z33z g.z33z), (51, SS_strings_Compare g.strings_Compare)] [(2, [0]), (3, [1]), (20, [2])] [] [] [] [] [] [] [] []
theorem sm_z89z (g : C_z89z) : Same (SS_z89z (@z89z_ g)) (abody (E_z89z g) Tryz.f157 code_157 3 [] [.asis] g.N) := by intro args; unfold SS_z89z; split; exact .inr fun R k => (by kernel_rfl); exact .inl fun R k => rfl
theorem ok_z89z [Fuel] : Ok 157 (SS_z89z (@z89z _)) := okF_of std (.cons ok_z29z (.cons ok_z33z (.cons ok_strings_Compare .nil))) ⟨rfl, rfl, by kernel_rfl, rfl, rfl, rfl⟩ (sm_z89z I_z89z) (cuts0 (fun _ => rfl) (by kernel_rfl)) Tryz.func157 (by kernel_rfl) (by kernel_rfl)
abbrev T_z28z : Type 1 := List G_Deed → {R : Type} → (Int → Option R) → Option R
structure C_z28z where
 N : Nat
 net_formed : T_net_formed
 z89z : T_z89z
def z28z_L4 (g : C_z28z) : Nat → List G_Deed → List G_Deed → Int → Int → {R : Type} → (List G_Deed → Int → Option R) → (List G_Deed → Option R) → Option R
 | 0, _, _, _, _, _, _, _ => none
 | n + 1, v2, v3, v4, v5, _, e0, e1 => (bif (decide (v5 < v4)) then (get_ v3 v5 fun x10 => (g.net_formed x10 (fun r11 => (bif (r11 != 0) then e0 v2 r11 else (bif (decide (v5 > 0)) then (get_ v2 (w64 (v5 - 1)) fun x12 => (g.z89z x12 x10 (fun r13 => (bif (decide (r13 ≥ 0)) then e0 v2 7 else z28z_L4 g n v2 v3 v4 (w64 (v5 + 1)) e0 e1)))) else z28z_L4 g n v2 v3 v4 (w64 (v5 + 1)) e0 e1))))) else e1 v2)
def z28z_L14 (g : C_z28z) : Nat → List G_Deed → Int → Int → List (G_net_own × Bool) → {R : Type} → (Int → Option R) → Option R → Option R
 | 0, _, _, _, _, _, _, _ => none
 | n + 1, v17, v18, v19, v20, _, e0, e1 => (bif (decide (v19 < v18)) then (get_ v17 v19 fun x22 => (bif ((mget_net_own_bool (⟨x22.f_Site, x22.f_No⟩ : G_net_own) v20).getD false) then e0 6 else z28z_L14 g n v17 v18 (w64 (v19 + 1)) (mset_net_own_bool (⟨x22.f_Site, x22.f_No⟩ : G_net_own) true v20) e0 e1)) else e1)
def z28z_ (g : C_z28z) (a1 : List G_Deed) {R : Type} (k0 : Int → Option R) : Option R :=
 (bif (decide ((a1.length : Int) > 2000)) then k0 2 else (z28z_L4 g g.N a1 a1 (a1.length : Int) 0 (fun e14 e15 => k0 e15) (fun e16 => (z28z_L14 g g.N e16 (e16.length : Int) 0 [] (fun e23 => k0 e23) (k0 0)))))
noncomputable def I_z28z [Fuel] : C_z28z := ⟨NN, @net_formed _, @z89z _⟩
noncomputable def z28z [Fuel] : T_z28z := @z28z_ I_z28z
def SS_z28z (g : T_z28z) : Spec A := fun args => match args with | [.d (.sl 80 a1)] => fun k => g a1 (fun z0 => k (.d (.int .i64 z0)) [.undef]) | _ => fun _ => none
def sh_z28z_L4 : SSt := mkSh 56 4 [(0, .sl 80), (13, .sl 80), (14, .int .i64), (15, .int .i64)] []
def LP_z28z_L4 (g : C_z28z) (n : Nat) : LPT A := fun ps => match ps with | [.d (.sl 80 p1), .d (.sl 80 p2), .d (.int .i64 p3), .d (.int .i64 p4)] => fun K => z28z_L4 g n p1 p2 p3 p4 (fun z0 z1 => K .ret (mkSt 56 4 [(0, .d (.sl 80 z0)), (2, .d (.int .i64 z1))] [])) (fun z0 => K (.exit 0) (mkSt 56 4 [(0, .d (.sl 80 z0))] [])) | _ => fun _ => none
def sh_z28z_L14 : SSt := mkSh 56 4 [(6, .mp 1), (39, .sl 80), (40, .int .i64), (41, .int .i64)] [(1, .mp 176 4)]
def LP_z28z_L14 (g : C_z28z) (n : Nat) : LPT A := fun ps => match ps with | [.d (.sl 80 p1), .d (.int .i64 p2), .d (.int .i64 p3), .mp 176 4 p4] => fun K => z28z_L14 g n p1 p2 p3 p4 (fun z0 => K .ret (mkSt 56 4 [(2, .d (.int .i64 z0))] [])) (K (.exit 2) (mkSt 56 4 [] [])) | _ => fun _ => none
noncomputable def code_129 : Code := (Tryz.f129.body).getD .skip
noncomputable def E_z28z (g : C_z28z) : Env A := mkE [(156, SS_net_formed g.net_formed), (157, SS_z89z g.z89z)] [(4, [0]), (8, [2]), (9, [3]), (38, [1])] [(4, ⟨[0, 13, 14, 15], [], [], [], [], []⟩), (14, ⟨[6, 39, 40, 41], [], [1], [], [], []⟩)] [(4, ⟨[0, 2], [], [], [], [], []⟩), (14, ⟨[2], [], [], [], [], []⟩)] [(4, pieceOf sh_z28z_L4 (LP_z28z_L4 g g.N)), (14, pieceOf sh_z28z_L14 (LP_z28z_L14 g g.N))] [] [] [] [] []
theorem ct_z28z [Fuel] : NatTab (E_z28z I_z28z).C := ct_of (P := Tryz.prog) (T := T) (.cons ok_net_formed (.cons ok_z89z .nil)) (by kernel_rfl)
noncomputable def cb_z28z_L4 : Code := sub [1, 1, 0, 1, 0, 0] code_129
theorem s_z28z_L4 (g : C_z28z) (n : Nat) : StepOk (E_z28z g) g.N cb_z28z_L4 sh_z28z_L4 (LP_z28z_L4 g) n := by intro ps; unfold LP_z28z_L4; split; exact .inr fun R K => (by kernel_rfl); exact .inl fun R K => rfl
theorem lf_z28z_L4 [Fuel] : LoopFine (E_z28z I_z28z) NN cb_z28z_L4 := fine_loop sh_z28z_L4 (LP_z28z_L4 I_z28z) (by kernel_rfl) ct_z28z (cuts0 (fun _ => rfl) (by kernel_rfl)) (fun ps R K => by unfold LP_z28z_L4; split <;> (try unfold z28z_L4) <;> rfl) (s_z28z_L4 I_z28z)
noncomputable def cb_z28z_L14 : Code := sub [1, 1, 1, 1, 0, 1, 0, 0] code_129
theorem s_z28z_L14 (g : C_z28z) (n : Nat) : StepOk (E_z28z g) g.N cb_z28z_L14 sh_z28z_L14 (LP_z28z_L14 g) n := by intro ps; unfold LP_z28z_L14; split; exact .inr fun R K => (by kernel_rfl); exact .inl fun R K => rfl
theorem lf_z28z_L14 [Fuel] : LoopFine (E_z28z I_z28z) NN cb_z28z_L14 := fine_loop sh_z28z_L14 (LP_z28z_L14 I_z28z) (by kernel_rfl) ct_z28z (cuts0 (fun _ => rfl) (by kernel_rfl)) (fun ps R K => by unfold LP_z28z_L14; split <;> (try unfold z28z_L14) <;> rfl) (s_z28z_L14 I_z28z)
theorem sm_z28z (g : C_z28z) : Same (SS_z28z (@z28z_ g)) (abody (E_z28z g) Tryz.f129 code_129 4 [] [.asis] g.N) := by intro args; unfold SS_z28z; split; exact .inr fun R k => (by kernel_rfl); exact .inl fun R k => rfl
theorem ok_z28z [Fuel] : Ok 129 (SS_z28z (@z28z _)) := okF_of std (.cons ok_net_formed (.cons ok_z89z .nil)) ⟨rfl, rfl, by kernel_rfl, rfl, rfl, rfl⟩ (sm_z28z I_z28z) (cutsL (fun _ => rfl) (.cons lf_z28z_L4 (.cons lf_z28z_L14 .nil)) (by kernel_rfl)) Tryz.func129 (by kernel_rfl) (by kernel_rfl)
abbrev T_z81z : Type 1 := List G_Deed → Int → {R : Type} → (Int → Option R) → Option R
structure C_z81z where
 N : Nat
 z62z : T_z62z
 z28z : T_z28z
def z81z_ (g : C_z81z) (a1 : List G_Deed) (a2 : Int) {R : Type} (k0 : Int → Option R) : Option R :=
 (g.z28z a1 (fun r3 => (bif (r3 != 0) then k0 r3 else (g.z62z a2 (fun r4 => (bif (!r4) then k0 1 else k0 0))))))
noncomputable def I_z81z [Fuel] : C_z81z := ⟨NN, @z62z _, @z28z _⟩
noncomputable def z81z [Fuel] : T_z81z := @z81z_ I_z81z
def SS_z81z (g : T_z81z) : Spec A := fun args => match args with | [.d (.sl 80 a1), .d (.int .i64 a2)] => fun k => g a1 a2 (fun z0 => k (.d (.int .i64 z0)) [.undef, .undef]) | _ => fun _ => none
noncomputable def code_102 : Code := (Tryz.f102.body).getD .skip
noncomputable def E_z81z (g : C_z81z) : Env A := mkE [(60, SS_z62z g.z62z), (129, SS_z28z g.z28z)] [] [] [] [] [] [] [] [] []
theorem sm_z81z (g : C_z81z) : Same (SS_z81z (@z81z_ g)) (abody (E_z81z g) Tryz.f102 code_102 0 [] [.asis] g.N) := by intro args; unfold SS_z81z; split; exact .inr fun R k => (by kernel_rfl); exact .inl fun R k => rfl
theorem ok_z81z [Fuel] : Ok 102 (SS_z81z (@z81z _)) := okF_of std (.cons ok_z62z (.cons ok_z28z .nil)) ⟨rfl, rfl, by kernel_rfl, rfl, rfl, rfl⟩ (sm_z81z I_z81z) (cuts0 (fun _ => rfl) (by kernel_rfl)) Tryz.func102 (by kernel_rfl) (by kernel_rfl)
abbrev T_z75z : Type 1 := List G_Deed → {R : Type} → (List G_Deed → Option R) → Option R
def z75z_ (g : Nat) (a1 : List G_Deed) {R : Type} (k0 : List G_Deed → Option R) : Option R :=
 k0 a1
noncomputable def z75z [Fuel] : T_z75z := @z75z_ NN
def SS_z75z (g : T_z75z) : Spec A := fun args => match args with | [.d (.sl 80 a1)] => fun k => g a1 (fun z0 => k (.fn 185 [.box [.d (.sl 80 z0)]]) [.undef]) | _ => fun _ => none
noncomputable def code_158 : Code := (Tryz.f158.body).getD .skip
noncomputable def E_z75z (g : Nat) : Env A := mkE [] [(1, [0])] [] [] [] [] [] [] [] []
theorem sm_z75z (g : Nat) : Same (SS_z75z (@z75z_ g)) (abody (E_z75z g) Tryz.f158 code_158 1 [] [.asis] g) := by intro args; unfold SS_z75z; split; exact .inr fun R k => (by kernel_rfl); exact .inl fun R k => rfl
theorem ok_z75z [Fuel] : Ok 158 (SS_z75z (@z75z _)) := okF_of std .nil ⟨rfl, rfl, by kernel_rfl, rfl, rfl, rfl⟩ (sm_z75z NN) (cuts0 (fun _ => rfl) (by kernel_rfl)) Tryz.func158 (by kernel_rfl) (by kernel_rfl)
abbrev T_z49z : Type 1 := List Int → {R : Type} → (List Int → Option R) → Option R
def z49z_L1 (g : Nat) : Nat → Int → Int → List Int → {R : Type} → (List Int → Option R) → Option R
 | 0, _, _, _, _, _ => none
 | n + 1, v2, v3, v4, _, e0 => (bif (decide (v2 < v3)) then (inr v4 v3 (at_ v4 v3 fun x9 => (inr v4 v2 (at_ v4 v2 fun x10 => (inr v4 v2 (at_ v4 v2 fun x11 => (inr (set_ v4 v2 x9) v3 (at_ (set_ v4 v2 x9) v3 fun x12 => z49z_L1 g n (w64 (v2 + 1)) (w64 (v3 - 1)) (set_ (set_ v4 v2 x9) v3 x10) e0)))))))) else e0 v4)
def z49z_ (g : Nat) (a1 : List Int) {R : Type} (k0 : List Int → Option R) : Option R :=
 (z49z_L1 g g 0 (w64 ((a1.length : Int) - 1)) a1 (fun e13 => k0 e13))
noncomputable def z49z [Fuel] : T_z49z := @z49z_ NN
def SS_z49z (g : T_z49z) : Spec A := fun args => match args with | [.arr 3 a1] => fun k => g a1 (fun z0 => k (.tup []) [.arr 3 z0]) | _ => fun _ => none
def sh_z49z_L1 : SSt := mkSh 28 1 [(0, .own 3 0), (2, .int .i64), (3, .int .i64)] [(0, .row 3)]
def LP_z49z_L1 (g : Nat) (n : Nat) : LPT A := fun ps => match ps with | [.d (.int .i64 p1), .d (.int .i64 p2), .d (.sl 3 p3)] => fun K => z49z_L1 g n p1 p2 p3 (fun z0 => K (.exit 0) (mkSt 28 1 [(0, .own 3 0)] [(0, some (.row 3 z0))])) | _ => fun _ => none
noncomputable def code_159 : Code := (Tryz.f159.body).getD .skip
noncomputable def E_z49z (g : Nat) : Env A := mkE [] [] [(1, ⟨[0, 2, 3], [], [0], [], [], []⟩)] [(1, ⟨[0], [], [0], [], [], []⟩)] [(1, pieceOf sh_z49z_L1 (LP_z49z_L1 g g))] [] [] [] [] [0]
theorem ct_z49z [Fuel] : NatTab (E_z49z NN).C := ct_of (P := Tryz.prog) (T := T) .nil (by kernel_rfl)
noncomputable def cb_z49z_L1 : Code := sub [1, 0, 0] code_159
theorem s_z49z_L1 (g : Nat) (n : Nat) : StepOk (E_z49z g) g cb_z49z_L1 sh_z49z_L1 (LP_z49z_L1 g) n := by intro ps; unfold LP_z49z_L1; split; exact .inr fun R K => (by kernel_rfl); exact .inl fun R K => rfl
theorem lf_z49z_L1 [Fuel] : LoopFine (E_z49z NN) NN cb_z49z_L1 := fine_loop sh_z49z_L1 (LP_z49z_L1 NN) (by kernel_rfl) ct_z49z (cuts0 (fun _ => rfl) (by kernel_rfl)) (fun ps R K => by unfold LP_z49z_L1; split <;> (try unfold z49z_L1) <;> rfl) (s_z49z_L1 NN)
theorem sm_z49z (g : Nat) : Same (SS_z49z (@z49z_ g)) (abody (E_z49z g) Tryz.f159 code_159 1 [0] [] g) := by intro args; unfold SS_z49z; split; exact .inr fun R k => (by kernel_rfl); exact .inl fun R k => rfl
theorem ok_z49z [Fuel] : Ok 159 (SS_z49z (@z49z _)) := okF_of std .nil ⟨rfl, rfl, by kernel_rfl, rfl, rfl, rfl⟩ (sm_z49z NN) (cutsL (fun _ => rfl) (.cons lf_z49z_L1 .nil) (by kernel_rfl)) Tryz.func159 (by kernel_rfl) (by kernel_rfl)
abbrev T_z23z : Type 1 := List G_Deed → Int → {R : Type} → (List Int → Option R) → Option R
structure C_z23z where
 N : Nat
 z75z : T_z75z
 z49z : T_z49z
def z23z_L6 (g : C_z23z) : Nat → List G_Deed → Int → List (G_net_own × Bool) → List Int → {R : Type} → (Int → List (G_net_own × Bool) → List Int → Option R) → Option R
 | 0, y0, y1, y2, y3, _, e0 => e0 y1 y2 y3
 | n + 1, l7, v4, v5, v6, _, e0 => (match l7[n]? with | none => none | some x8 => (bif (decide (x8.f_At > v4)) then z23z_L6 g n l7 v4 v5 v6 e0 else (bif ((mget_net_own_bool (⟨x8.f_Site, x8.f_No⟩ : G_net_own) v5).getD false) then z23z_L6 g n l7 v4 v5 v6 e0 else (bif (decide ((v6.length + [(n : Int)].length) * 8 ≤ roomBytes')) then (bif (x8.f_Kind == 5) then z23z_L6 g n l7 v4 (mset_net_own_bool (⟨x8.f_Of, x8.f_Other⟩ : G_net_own) true v5) (v6 ++ [(n : Int)]) e0 else z23z_L6 g n l7 v4 v5 (v6 ++ [(n : Int)]) e0) else none))))
noncomputable def raw_z23z (g : C_z23z) (a1 : List G_Deed) (a2 : Int) {R : Type} (k0 : List Int → Option R) : Option R :=
 (g.z75z a1 (fun r3 => (bif decide (r3.length < 4611686018427387904) then (z23z_L6 g r3.length r3 a2 [] [] (fun e9 e10 e11 => (g.z49z e11 (fun r12 => k0 r12)))) else none)))
def dec0_z23z (p : IV A × List (IV A)) : Option ((List Int)) := match p with | (.arr 3 b1, [.undef, .undef]) => some (b1) | _ => none
def inj0_z23z (q : (List Int)) : IV A × List (IV A) := (.arr 3 q, [.undef, .undef])
theorem hi0_z23z (p : IV A × List (IV A)) (q : (List Int)) (h : dec0_z23z p = some q) : p = inj0_z23z q := by unfold dec0_z23z at h; split at h; (cases h; rfl); cases h
noncomputable def z23z_ (g : C_z23z) (a1 : List G_Deed) (a2 : Int) {R : Type} (k0 : List Int → Option R) : Option R :=
 (raw_z23z g a1 a2 (fun z0 => some (inj0_z23z (z0)))).bind fun p => (decK dec0_z23z p (fun q => k0 q) none)
noncomputable def I_z23z [Fuel] : C_z23z := ⟨NN, @z75z _, @z49z _⟩
noncomputable def z23z [Fuel] : T_z23z := @z23z_ I_z23z
def SS_z23z (g : T_z23z) : Spec A := fun args => match args with | [.d (.sl 80 a1), .d (.int .i64 a2)] => fun k => g a1 a2 (fun z0 => k (.arr 3 z0) [.undef, .undef]) | _ => fun _ => none
def sh_z23z_L6 : SSt := mkSh 43 9 [(3, .ptr 0 0), (5, .ptr 2 0), (6, .ptr 3 0)] [(0, .box [.int .i64]), (1, .mp 176 4), (2, .box [.mp 1]), (3, .box [.own 3 5]), (5, .row 3)]
abbrev bw_z23z_L6 : Bw := ⟨185, 81, 80, 3, 4⟩
def LP_z23z_L6 (g : C_z23z) (n : Nat) (l : List (A (bw_z23z_L6).tE)) : LPT A := fun ps => match ps with | [.d (.int .i64 p1), .mp 176 4 p2, .d (.sl 3 p3)] => fun K => z23z_L6 g n l p1 p2 p3 (fun z0 z1 z2 => K .normal (mkSt 43 9 [(3, .ptr 0 0), (5, .ptr 2 0), (6, .ptr 3 0)] [(0, some (.box [.d (.int .i64 z0)])), (1, some (.mp 176 4 z1)), (2, some (.box [.mp 1])), (3, some (.box [.own 3 5])), (5, some (.row 3 z2))])) | _ => fun _ => none
noncomputable def code_130 : Code := (Tryz.f130.body).getD .skip
noncomputable def E_z23z (g : C_z23z) : Env A := mkE [(158, SS_z75z g.z75z), (159, SS_z49z g.z49z)] [(3, [0]), (5, [2]), (6, [3]), (8, [6]), (9, [1]), (11, [4]), (29, [7]), (30, [8])] [(6, ⟨[3, 5, 6], [], [0, 1, 2, 3], [(3, 0, 3, 5)], [], []⟩)] [(6, ⟨[3, 5, 6], [], [0, 1, 2, 3], [], [], []⟩)] [] [] [] [] [(159, 0)] []
noncomputable def CB_z23z (g : C_z23z) : Nat → Option (Nat → PieceB A (bw_z23z_L6).tE) := fun i => List.lookup i [(0, pieceB (bw_z23z_L6).tE sh_z23z_L6 (LP_z23z_L6 g))]
def kp_z23z : Nat → List Nat := fun i => (List.lookup i [(0, [3, 5, 6])]).getD []
theorem ct_z23z [Fuel] : NatTab (E_z23z I_z23z).C := ct_of (P := Tryz.prog) (T := T) (.cons ok_z75z (.cons ok_z49z .nil)) (by kernel_rfl)
noncomputable def bwp_z23z_L6 : BwP := (bwP Tryz.f185.body).get (by kernel_rfl)
theorem bwf_z23z_L6 : BwFine Tryz.prog T bw_z23z_L6 := ⟨bwOk_of (fn := Tryz.f185) Tryz.func185 bwp_z23z_L6 (by kernel_rfl) (by kernel_rfl) (by kernel_rfl) (by kernel_rfl) (by kernel_rfl) (by kernel_rfl) (by kernel_rfl) (by kernel_rfl) (by kernel_rfl), enters_of (fn := Tryz.f185) Tryz.func185 (by kernel_rfl) (by kernel_rfl), by kernel_rfl, by kernel_rfl, fun x => by kernel_rfl⟩
noncomputable def rp_z23z_L6 : RfP := (rfOf (sub [1, 1, 1, 0] code_130)).get (by kernel_rfl)
theorem z_z23z_L6 (g : C_z23z) : BZeroOk (bw_z23z_L6).tE sh_z23z_L6 (LP_z23z_L6 g) := by intro xs ps; unfold LP_z23z_L6; split; exact .inr fun R K => (by kernel_rfl); exact .inl fun R K => rfl
theorem s_z23z_L6 (g : C_z23z) (i : Nat) : BStepOk (E_z23z g) g.N (kp_z23z (rp_z23z_L6).B) rp_z23z_L6 (bw_z23z_L6).tE sh_z23z_L6 (LP_z23z_L6 g) i := by intro xs ps; unfold LP_z23z_L6; split; exact .inr fun R K => (by kernel_rfl); exact .inl fun R K => rfl
theorem lf_z23z_L6 [Fuel] : BOk (E_z23z I_z23z) bw_z23z_L6 (CB_z23z I_z23z) kp_z23z NN rp_z23z_L6 := fine_back sh_z23z_L6 (LP_z23z_L6 I_z23z) (by kernel_rfl) (cuts0 (fun _ => rfl) (by kernel_rfl)) (cuts0 (fun _ => rfl) (by kernel_rfl)) (z_z23z_L6 I_z23z) (s_z23z_L6 I_z23z)
theorem sm_z23z (g : C_z23z) : Same (SS_z23z (@raw_z23z g)) (abodyB (E_z23z g) bw_z23z_L6 (CB_z23z g) kp_z23z Tryz.f130 code_130 9 [] [.arr 3] g.N) := by intro args; unfold SS_z23z; split; exact .inr fun R k => (by kernel_rfl); exact .inl fun R k => rfl
theorem wh_z23z (g : C_z23z) : Whole (SS_z23z (@z23z_ g)) (SS_z23z (@raw_z23z g)) := by
 intro args R k res h
 unfold SS_z23z at h
 split at h
 ·obtain ⟨p, hp, h⟩ := Option.bind_eq_some_iff.1 h
  exact ⟨p, hp, (decK_hc (inj := inj0_z23z) hi0_z23z (fun h => (by cases h)) h)⟩
 ·cases h
theorem nx_z23z (g : C_z23z) : NatSpec (SS_z23z (@z23z_ g)) := by
 intro args R k
 unfold SS_z23z
 split
 ·unfold z23z_
  rw [Option.bind_assoc]
  exact congrArg (Option.bind _) (funext fun p => (decK_na (inj := inj0_z23z) rfl))
 ·rfl
theorem ok_z23z [Fuel] : Ok 130 (SS_z23z (@z23z _)) := okB_of std (.cons ok_z75z (.cons ok_z49z .nil)) ⟨rfl, rfl, by kernel_rfl, rfl, rfl, rfl⟩ bwf_z23z_L6 (sm_z23z I_z23z) (wh_z23z I_z23z) (nx_z23z I_z23z) (cutsB (fun _ => rfl) .nil (.cons lf_z23z_L6 .nil) (by kernel_rfl) (by kernel_rfl)) Tryz.func130 (by kernel_rfl) (by kernel_rfl)
abbrev T_net_key : Type 1 := G_Contact → {R : Type} → (G_Contact → Option R) → Option R
def net_key_ (g : Nat) (a1 : G_Contact) {R : Type} (k0 : G_Contact → Option R) : Option R :=
 k0 (⟨a1.f_At, a1.f_Mode, a1.f_Band, a1.f_Call, 0, 0, [], []⟩ : G_Contact)
noncomputable def net_key [Fuel] : T_net_key := @net_key_ NN
def SS_net_key (g : T_net_key) : Spec A := fun args => match args with | [.agg [.d (.int .i64 a1), .d (.int .i64 a2), .d (.str a3), .d (.str a4), .d (.int .i64 a5), .d (.int .i64 a6), .d (.str a7), .d (.str a8)]] => fun k => g ⟨a1, a2, a3, a4, a5, a6, a7, a8⟩ (fun z0 => k (.agg [.d (.int .i64 z0.f_At), .d (.int .i64 z0.f_Mode), .d (.str z0.f_Band), .d (.str z0.f_Call), .d (.int .i64 z0.f_Sent), .d (.int .i64 z0.f_Heard), .d (.str z0.f_Gave), .d (.str z0.f_Got)]) [.undef]) | _ => fun _ => none
noncomputable def code_131 : Code := (Tryz.f131.body).getD .skip
noncomputable def E_net_key (g : Nat) : Env A := mkE [] [(1, [0]), (2, [1])] [] [] [] [] [] [] [] []
theorem sm_net_key (g : Nat) : Same (SS_net_key (@net_key_ g)) (abody (E_net_key g) Tryz.f131 code_131 2 [] [.asis] g) := by intro args; unfold SS_net_key; split; exact .inr fun R k => (by kernel_rfl); exact .inl fun R k => rfl
theorem ok_net_key [Fuel] : Ok 131 (SS_net_key (@net_key _)) := okF_of std .nil ⟨rfl, rfl, by kernel_rfl, rfl, rfl, rfl⟩ (sm_net_key NN) (cuts0 (fun _ => rfl) (by kernel_rfl)) Tryz.func131 (by kernel_rfl) (by kernel_rfl)
abbrev T_z31z : Type 1 := List G_Deed → Int → {R : Type} → (Int → Option R) → (List G_Deed → List G_Contact → List (List UInt8) → List Int → List (G_net_own × Bool) → Int → Option R) → Option R
structure C_z31z where
 N : Nat
 z26z : T_z26z
 z23z : T_z23z
 net_key : T_net_key
def z31z_L4 (g : C_z31z) : Nat → List G_Deed → Int → Int → List (G_net_own × Bool) → List (G_Contact × G_Deed) → List Int → List G_Deed → List G_Contact → List (List UInt8) → List Int → {R : Type} → (List (G_net_own × Bool) → List (G_Contact × G_Deed) → List G_Deed → List G_Contact → List (List UInt8) → List Int → Option R) → Option R
 | 0, _, _, _, _, _, _, _, _, _, _, _, _ => none
 | n + 1, v4, v5, v6, v7, v8, v9, v10, v11, v12, v13, _, e0 => (bif (decide (v6 < v5)) then (inr v9 v6 (at_ v9 v6 fun x26 => (get_ v4 x26 fun x27 => (bif (decide ((v10.length + [x27].length) * 176 ≤ roomBytes')) then (bif (x27.f_Kind == 3) then (bif (x27.f_Kind != 1) then z31z_L4 g n v4 v5 (w64 (v6 + 1)) (mset_net_own_bool (⟨x27.f_Site, x27.f_Contact.f_Sent⟩ : G_net_own) true v7) v8 v9 (v10 ++ [x27]) v11 v12 v13 e0 else (g.net_key x27.f_Contact (fun r28 => (bif (mget_Contact_Deed r28 v8).isSome then (bif (decide ((v13.length + [x26].length) * 8 ≤ roomBytes')) then z31z_L4 g n v4 v5 (w64 (v6 + 1)) (mset_net_own_bool (⟨x27.f_Site, x27.f_Contact.f_Sent⟩ : G_net_own) true v7) v8 v9 (v10 ++ [x27]) v11 v12 (v13 ++ [x26]) e0 else none) else (g.net_key x27.f_Contact (fun r29 => (bif (decide ((v11.length + [x27.f_Contact].length) * 96 ≤ roomBytes')) then z31z_L4 g n v4 v5 (w64 (v6 + 1)) (mset_net_own_bool (⟨x27.f_Site, x27.f_Contact.f_Sent⟩ : G_net_own) true v7) (mset_Contact_Deed r29 x27 v8) v9 (v10 ++ [x27]) (v11 ++ [x27.f_Contact]) v12 v13 e0 else none))))))) else (bif (x27.f_Kind == 4) then (bif (x27.f_Kind == 4) then (bif (x27.f_Kind != 1) then z31z_L4 g n v4 v5 (w64 (v6 + 1)) (mdel_net_own_bool (⟨x27.f_Site, x27.f_Contact.f_Sent⟩ : G_net_own) v7) v8 v9 (v10 ++ [x27]) v11 v12 v13 e0 else (g.net_key x27.f_Contact (fun r30 => (bif (mget_Contact_Deed r30 v8).isSome then (bif (decide ((v13.length + [x26].length) * 8 ≤ roomBytes')) then z31z_L4 g n v4 v5 (w64 (v6 + 1)) (mdel_net_own_bool (⟨x27.f_Site, x27.f_Contact.f_Sent⟩ : G_net_own) v7) v8 v9 (v10 ++ [x27]) v11 v12 (v13 ++ [x26]) e0 else none) else (g.net_key x27.f_Contact (fun r31 => (bif (decide ((v11.length + [x27.f_Contact].length) * 96 ≤ roomBytes')) then z31z_L4 g n v4 v5 (w64 (v6 + 1)) (mdel_net_own_bool (⟨x27.f_Site, x27.f_Contact.f_Sent⟩ : G_net_own) v7) (mset_Contact_Deed r31 x27 v8) v9 (v10 ++ [x27]) (v11 ++ [x27.f_Contact]) v12 v13 e0 else none))))))) else (bif (x27.f_Kind != 1) then z31z_L4 g n v4 v5 (w64 (v6 + 1)) v7 v8 v9 (v10 ++ [x27]) v11 v12 v13 e0 else (g.net_key x27.f_Contact (fun r32 => (bif (mget_Contact_Deed r32 v8).isSome then (bif (decide ((v13.length + [x26].length) * 8 ≤ roomBytes')) then z31z_L4 g n v4 v5 (w64 (v6 + 1)) v7 v8 v9 (v10 ++ [x27]) v11 v12 (v13 ++ [x26]) e0 else none) else (g.net_key x27.f_Contact (fun r33 => (bif (decide ((v11.length + [x27.f_Contact].length) * 96 ≤ roomBytes')) then z31z_L4 g n v4 v5 (w64 (v6 + 1)) v7 (mset_Contact_Deed r33 x27 v8) v9 (v10 ++ [x27]) (v11 ++ [x27.f_Contact]) v12 v13 e0 else none)))))))) else (bif (x27.f_Kind == 1) then (bif (x27.f_Kind != 1) then z31z_L4 g n v4 v5 (w64 (v6 + 1)) (mdel_net_own_bool (⟨x27.f_Site, x27.f_Contact.f_Sent⟩ : G_net_own) v7) v8 v9 (v10 ++ [x27]) v11 v12 v13 e0 else (g.net_key x27.f_Contact (fun r34 => (bif (mget_Contact_Deed r34 v8).isSome then (bif (decide ((v13.length + [x26].length) * 8 ≤ roomBytes')) then z31z_L4 g n v4 v5 (w64 (v6 + 1)) (mdel_net_own_bool (⟨x27.f_Site, x27.f_Contact.f_Sent⟩ : G_net_own) v7) v8 v9 (v10 ++ [x27]) v11 v12 (v13 ++ [x26]) e0 else none) else (g.net_key x27.f_Contact (fun r35 => (bif (decide ((v11.length + [x27.f_Contact].length) * 96 ≤ roomBytes')) then z31z_L4 g n v4 v5 (w64 (v6 + 1)) (mdel_net_own_bool (⟨x27.f_Site, x27.f_Contact.f_Sent⟩ : G_net_own) v7) (mset_Contact_Deed r35 x27 v8) v9 (v10 ++ [x27]) (v11 ++ [x27.f_Contact]) v12 v13 e0 else none))))))) else (bif (x27.f_Kind != 1) then z31z_L4 g n v4 v5 (w64 (v6 + 1)) v7 v8 v9 (v10 ++ [x27]) v11 v12 v13 e0 else (g.net_key x27.f_Contact (fun r36 => (bif (mget_Contact_Deed r36 v8).isSome then (bif (decide ((v13.length + [x26].length) * 8 ≤ roomBytes')) then z31z_L4 g n v4 v5 (w64 (v6 + 1)) v7 v8 v9 (v10 ++ [x27]) v11 v12 (v13 ++ [x26]) e0 else none) else (g.net_key x27.f_Contact (fun r37 => (bif (decide ((v11.length + [x27.f_Contact].length) * 96 ≤ roomBytes')) then z31z_L4 g n v4 v5 (w64 (v6 + 1)) v7 (mset_Contact_Deed r37 x27 v8) v9 (v10 ++ [x27]) (v11 ++ [x27.f_Contact]) v12 v13 e0 else none)))))))))) else none)))) else e0 v7 v8 v10 v11 v12 v13)
def z31z_L25 (g : C_z31z) : Nat → Int → Int → List (G_net_own × Bool) → List (G_Contact × G_Deed) → List G_Deed → List G_Contact → List (List UInt8) → List Int → {R : Type} → (List (G_net_own × Bool) → List G_Deed → List G_Contact → List (List UInt8) → List Int → Option R) → Option R
 | 0, _, _, _, _, _, _, _, _, _, _ => none
 | n + 1, v45, v46, v47, v48, v49, v50, v51, v52, _, e0 => (bif (decide (v46 < v45)) then (inr v50 v46 (at_ v50 v46 fun x55 => (g.net_key x55 (fun r56 => (bif (decide ((v51.length + [((mget_Contact_Deed r56 v48).getD (⟨[], 0, 0, 0, (⟨0, 0, [], [], 0, 0, [], []⟩ : G_Contact), [], [], 0⟩ : G_Deed)).f_Site].length) * 16 ≤ roomBytes')) then z31z_L25 g n v45 (w64 (v46 + 1)) v47 v48 v49 v50 (v51 ++ [((mget_Contact_Deed r56 v48).getD (⟨[], 0, 0, 0, (⟨0, 0, [], [], 0, 0, [], []⟩ : G_Contact), [], [], 0⟩ : G_Deed)).f_Site]) v52 e0 else none))))) else e0 v47 v49 v50 v51 v52)
def z31z_ (g : C_z31z) (a1 : List G_Deed) (a2 : Int) {R : Type} (k0 : Int → Option R) (k1 : List G_Deed → List G_Contact → List (List UInt8) → List Int → List (G_net_own × Bool) → Int → Option R) : Option R :=
 (g.z23z a1 a2 (fun r3 => (z31z_L4 g g.N a1 (r3.length : Int) 0 [] [] r3 [] [] [] [] (fun e38 e39 e40 e41 e42 e43 => (bif (decide ((e41.length : Int) > 2000)) then k0 2 else (g.z26z e41 (fun r44 => (z31z_L25 g g.N (r44.length : Int) 0 e38 e39 e40 r44 e42 e43 (fun e57 e58 e59 e60 e61 => k1 e58 e59 e60 e61 e57 0)))))))))
noncomputable def I_z31z [Fuel] : C_z31z := ⟨NN, @z26z _, @z23z _, @net_key _⟩
noncomputable def z31z [Fuel] : T_z31z := @z31z_ I_z31z
def SS_z31z (g : T_z31z) : Spec A := fun args => match args with | [.d (.sl 80 a1), .d (.int .i64 a2)] => fun k => g a1 a2 (fun z0 => k (.tup [.d (.lit (.pointer none)), .d (.int .i64 z0)]) [.undef, .undef]) (fun z0 z1 z2 z3 z4 z5 => k (.tup [.box [.arr 80 z0, .arr 35 z1, .arr 9 z2, .arr 3 z3, .mp 176 4 z4], .d (.int .i64 z5)]) [.undef, .undef]) | _ => fun _ => none
def sh_z31z_L4 : SSt := mkSh 143 23 [(0, .sl 80), (6, .ptr 1 0), (7, .mp 2), (21, .own 3 3), (22, .int .i64), (23, .int .i64)] [(0, .mp 176 4), (1, .box [.own 80 4, .own 35 5, .own 9 6, .own 3 7, .mp 0]), (2, .mp 35 80), (3, .row 3), (4, .row 80), (5, .row 35), (6, .row 9), (7, .row 3)]
def LP_z31z_L4 (g : C_z31z) (n : Nat) : LPT A := fun ps => match ps with | [.d (.sl 80 p1), .d (.int .i64 p2), .d (.int .i64 p3), .mp 176 4 p4, .mp 35 80 p5, .d (.sl 3 p6), .d (.sl 80 p7), .d (.sl 35 p8), .d (.sl 9 p9), .d (.sl 3 p10)] => fun K => z31z_L4 g n p1 p2 p3 p4 p5 p6 p7 p8 p9 p10 (fun z0 z1 z2 z3 z4 z5 => K (.exit 0) (mkSt 143 23 [(6, .ptr 1 0), (7, .mp 2)] [(0, some (.mp 176 4 z0)), (1, some (.box [.own 80 4, .own 35 5, .own 9 6, .own 3 7, .mp 0])), (2, some (.mp 35 80 z1)), (4, some (.row 80 z2)), (5, some (.row 35 z3)), (6, some (.row 9 z4)), (7, some (.row 3 z5))])) | _ => fun _ => none
def sh_z31z_L25 : SSt := mkSh 143 23 [(6, .ptr 1 0), (7, .mp 2), (121, .own 35 17), (122, .int .i64), (123, .int .i64)] [(0, .mp 176 4), (1, .box [.own 80 16, .own 35 17, .own 9 18, .own 3 19, .mp 0]), (2, .mp 35 80), (16, .row 80), (17, .row 35), (18, .row 9), (19, .row 3)]
def LP_z31z_L25 (g : C_z31z) (n : Nat) : LPT A := fun ps => match ps with | [.d (.int .i64 p1), .d (.int .i64 p2), .mp 176 4 p3, .mp 35 80 p4, .d (.sl 80 p5), .d (.sl 35 p6), .d (.sl 9 p7), .d (.sl 3 p8)] => fun K => z31z_L25 g n p1 p2 p3 p4 p5 p6 p7 p8 (fun z0 z1 z2 z3 z4 => K (.exit 3) (mkSt 143 23 [(6, .ptr 1 0)] [(0, some (.mp 176 4 z0)), (1, some (.box [.own 80 16, .own 35 17, .own 9 18, .own 3 19, .mp 0])), (16, some (.row 80 z1)), (17, some (.row 35 z2)), (18, some (.row 9 z3)), (19, some (.row 3 z4))])) | _ => fun _ => none
noncomputable def code_103 : Code := (Tryz.f103.body).getD .skip
noncomputable def E_z31z (g : C_z31z) : Env A := mkE [(34, SS_z26z g.z26z), (130, SS_z23z g.z23z), (131, SS_net_key g.net_key)] [(10, [8]), (11, [11]), (14, [20]), (15, [0]), (17, [1]), (18, [2]), (21, [3]), (37, [9]), (38, [10]), (86, [12]), (87, [13]), (102, [14]), (103, [15]), (137, [21]), (138, [22])] [(4, ⟨[0, 6, 7, 21, 22, 23], [], [0, 1, 2, 3], [(1, 0, 80, 4), (1, 1, 35, 5), (1, 2, 9, 6), (1, 3, 3, 7)], [], []⟩), (25, ⟨[6, 7, 121, 122, 123], [], [0, 1, 2], [(1, 0, 80, 16), (1, 1, 35, 17), (1, 2, 9, 18), (1, 3, 3, 19)], [], []⟩)] [(4, ⟨[6, 7], [], [0, 1, 2, 4, 5, 6, 7], [], [], []⟩), (25, ⟨[6], [], [0, 1, 16, 17, 18, 19], [], [], []⟩)] [(4, pieceOf sh_z31z_L4 (LP_z31z_L4 g g.N)), (25, pieceOf sh_z31z_L25 (LP_z31z_L25 g g.N))] [] [] [] [(34, 0)] []
theorem ct_z31z [Fuel] : NatTab (E_z31z I_z31z).C := ct_of (P := Tryz.prog) (T := T) (.cons ok_z26z (.cons ok_z23z (.cons ok_net_key .nil))) (by kernel_rfl)
noncomputable def cb_z31z_L4 : Code := sub [1, 1, 1, 0, 1, 0, 0] code_103
theorem s_z31z_L4 (g : C_z31z) (n : Nat) : StepOk (E_z31z g) g.N cb_z31z_L4 sh_z31z_L4 (LP_z31z_L4 g) n := by intro ps; unfold LP_z31z_L4; split; exact .inr fun R K => (by kernel_rfl); exact .inl fun R K => rfl
theorem lf_z31z_L4 [Fuel] : LoopFine (E_z31z I_z31z) NN cb_z31z_L4 := fine_loop sh_z31z_L4 (LP_z31z_L4 I_z31z) (by kernel_rfl) ct_z31z (cuts0 (fun _ => rfl) (by kernel_rfl)) (fun ps R K => by unfold LP_z31z_L4; split <;> (try unfold z31z_L4) <;> rfl) (s_z31z_L4 I_z31z)
noncomputable def cb_z31z_L25 : Code := sub [1, 1, 1, 1, 1, 1, 0, 1, 0, 0] code_103
theorem s_z31z_L25 (g : C_z31z) (n : Nat) : StepOk (E_z31z g) g.N cb_z31z_L25 sh_z31z_L25 (LP_z31z_L25 g) n := by intro ps; unfold LP_z31z_L25; split; exact .inr fun R K => (by kernel_rfl); exact .inl fun R K => rfl
theorem lf_z31z_L25 [Fuel] : LoopFine (E_z31z I_z31z) NN cb_z31z_L25 := fine_loop sh_z31z_L25 (LP_z31z_L25 I_z31z) (by kernel_rfl) ct_z31z (cuts0 (fun _ => rfl) (by kernel_rfl)) (fun ps R K => by unfold LP_z31z_L25; split <;> (try unfold z31z_L25) <;> rfl) (s_z31z_L25 I_z31z)
theorem sm_z31z (g : C_z31z) : Same (SS_z31z (@z31z_ g)) (abody (E_z31z g) Tryz.f103 code_103 23 [] [.asis, .asis] g.N) := by intro args; unfold SS_z31z; split; exact .inr fun R k => (by kernel_rfl); exact .inl fun R k => rfl
theorem ok_z31z [Fuel] : Ok 103 (SS_z31z (@z31z _)) := okF_of std (.cons ok_z26z (.cons ok_z23z (.cons ok_net_key .nil))) ⟨rfl, rfl, by kernel_rfl, rfl, rfl, rfl⟩ (sm_z31z I_z31z) (cutsL (fun _ => rfl) (.cons lf_z31z_L4 (.cons lf_z31z_L25 .nil)) (by kernel_rfl)) Tryz.func103 (by kernel_rfl) (by kernel_rfl)
abbrev T_z77z : Type 1 := List G_Deed → Int → {R : Type} → (Int → Option R) → (List G_Deed → List G_Contact → List (List UInt8) → List Int → List (G_net_own × Bool) → Int → Option R) → Option R
structure C_z77z where
 N : Nat
 z81z : T_z81z
 z31z : T_z31z
def z77z_ (g : C_z77z) (a1 : List G_Deed) (a2 : Int) {R : Type} (k0 : Int → Option R) (k1 : List G_Deed → List G_Contact → List (List UInt8) → List Int → List (G_net_own × Bool) → Int → Option R) : Option R :=
 (g.z81z a1 a2 (fun r3 => (bif (r3 != 0) then k0 r3 else (g.z31z a1 a2 (fun r4 => k0 r4) (fun r5 r6 r7 r8 r9 r10 => k1 r5 r6 r7 r8 r9 r10)))))
noncomputable def I_z77z [Fuel] : C_z77z := ⟨NN, @z81z _, @z31z _⟩
noncomputable def z77z [Fuel] : T_z77z := @z77z_ I_z77z
def SS_z77z (g : T_z77z) : Spec A := fun args => match args with | [.d (.sl 80 a1), .d (.int .i64 a2)] => fun k => g a1 a2 (fun z0 => k (.tup [.d (.lit (.pointer none)), .d (.int .i64 z0)]) [.undef, .undef]) (fun z0 z1 z2 z3 z4 z5 => k (.tup [.box [.arr 80 z0, .arr 35 z1, .arr 9 z2, .arr 3 z3, .mp 176 4 z4], .d (.int .i64 z5)]) [.undef, .undef]) | _ => fun _ => none
noncomputable def code_67 : Code := (Tryz.f67.body).getD .skip
noncomputable def E_z77z (g : C_z77z) : Env A := mkE [(102, SS_z81z g.z81z), (103, SS_z31z g.z31z)] [(15, [0, 1, 2, 3, 4, 5])] [] [] [] [] [] [] [] []
theorem sm_z77z (g : C_z77z) : Same (SS_z77z (@z77z_ g)) (abody (E_z77z g) Tryz.f67 code_67 6 [] [.asis, .asis] g.N) := by intro args; unfold SS_z77z; split; exact .inr fun R k => (by kernel_rfl); exact .inl fun R k => rfl
theorem ok_z77z [Fuel] : Ok 67 (SS_z77z (@z77z _)) := okF_of std (.cons ok_z81z (.cons ok_z31z .nil)) ⟨rfl, rfl, by kernel_rfl, rfl, rfl, rfl⟩ (sm_z77z I_z77z) (cuts0 (fun _ => rfl) (by kernel_rfl)) Tryz.func67 (by kernel_rfl) (by kernel_rfl)
abbrev T_z78z : Type 1 := {R : Type} → Option R
def z78z_ (g : Nat)  {R : Type}  : Option R :=
 none
noncomputable def z78z [Fuel] : T_z78z := @z78z_ NN
def SS_z78z (g : T_z78z) : Spec A := fun args => match args with | [.d (.lit (.pointer none))] => fun k => g | _ => fun _ => none
noncomputable def code_104 : Code := (Tryz.f104.body).getD .skip
noncomputable def E_z78z (g : Nat) : Env A := mkE [] [(6, [0])] [] [] [] [] [] [] [] []
noncomputable def cb_z78z_L3 : Code := sub [1, 1, 0, 1, 0, 0] code_104
theorem lf_z78z_L3 [Fuel] : LoopFine (E_z78z NN) NN cb_z78z_L3 := no_loop (by kernel_rfl)
theorem sm_z78z (g : Nat) : Same (SS_z78z (@z78z_ g)) (abody (E_z78z g) Tryz.f104 code_104 1 [] [.asis] g) := by intro args; unfold SS_z78z; split; exact .inr fun R k => (by kernel_rfl); exact .inl fun R k => rfl
theorem ok_z78z [Fuel] : Ok 104 (SS_z78z (@z78z _)) := okF_of std .nil ⟨rfl, rfl, by kernel_rfl, rfl, rfl, rfl⟩ (sm_z78z NN) (cutsL (fun _ => rfl) (.cons lf_z78z_L3 .nil) (by kernel_rfl)) Tryz.func104 (by kernel_rfl) (by kernel_rfl)
abbrev T_z66z : Type 1 := {R : Type} → Option R
structure C_z66z where
 N : Nat
 z78z : T_z78z
def z66z_ (g : C_z66z)  {R : Type}  : Option R :=
 (g.z78z)
noncomputable def I_z66z [Fuel] : C_z66z := ⟨NN, @z78z _⟩
noncomputable def z66z [Fuel] : T_z66z := @z66z_ I_z66z
def SS_z66z (g : T_z66z) : Spec A := fun args => match args with | [.d (.lit (.pointer none))] => fun k => g | _ => fun _ => none
noncomputable def code_68 : Code := (Tryz.f68.body).getD .skip
noncomputable def E_z66z (g : C_z66z) : Env A := mkE [(104, SS_z78z g.z78z)] [] [] [] [] [] [] [] [] []
noncomputable def cb_z66z_L3 : Code := sub [1, 1, 0, 1, 0, 0] code_68
theorem lf_z66z_L3 [Fuel] : LoopFine (E_z66z I_z66z) NN cb_z66z_L3 := no_loop (by kernel_rfl)
theorem sm_z66z (g : C_z66z) : Same (SS_z66z (@z66z_ g)) (abody (E_z66z g) Tryz.f68 code_68 0 [] [.asis, .asis] g.N) := by intro args; unfold SS_z66z; split; exact .inr fun R k => (by kernel_rfl); exact .inl fun R k => rfl
theorem ok_z66z [Fuel] : Ok 68 (SS_z66z (@z66z _)) := okF_of std (.cons ok_z78z .nil) ⟨rfl, rfl, by kernel_rfl, rfl, rfl, rfl⟩ (sm_z66z I_z66z) (cutsL (fun _ => rfl) (.cons lf_z66z_L3 .nil) (by kernel_rfl)) Tryz.func68 (by kernel_rfl) (by kernel_rfl)
end Go.Am
