/- The functions of the program as Lean functions, each shown to be what the code computes, part 10. No condition: lemmas for the claim. -/
import Derived.Test.YtnlblmnoiepeaaaGreatDoorF0
import Derived.Test.YtnlblmnoiepeaaaGreatDoorFSh
import Derived.Test.YtnlblmnoiepeaaaGreatDoorF1
import Derived.Test.YtnlblmnoiepeaaaGreatDoorF4
import Derived.Test.YtnlblmnoiepeaaaGreatDoorF5
import Derived.Test.YtnlblmnoiepeaaaGreatDoorF6
import Derived.Test.YtnlblmnoiepeaaaGreatDoorF7
import Derived.Test.YtnlblmnoiepeaaaGreatDoorF9
set_option linter.unusedVariables false
set_option maxRecDepth 100000
namespace Go.Am
open Go Go.Proofs
abbrev T_z94z : Type 1 := G_Deed → G_Deed → {R : Type} → (Int → Option R) → Option R
structure C_z94z where
 N : Nat
 strings_Compare : T_strings_Compare
 z36z : T_z36z
 z31z : T_z31z
def z94z_ (g : C_z94z) (a1 a2 : G_Deed) {R : Type} (k0 : Int → Option R) : Option R :=
 (g.z31z a1.f_At a2.f_At (fun r3 => (g.strings_Compare a1.f_Site a2.f_Site (fun r4 => (g.z31z a1.f_No a2.f_No (fun r5 => (g.z36z [r3, r4, r5] (fun r6 => k0 r6))))))))
noncomputable def I_z94z [Fuel] : C_z94z := ⟨NN, @strings_Compare _, @z36z _, @z31z _⟩
noncomputable def z94z [Fuel] : T_z94z := @z94z_ I_z94z
def SS_z94z (g : T_z94z) : Spec A := fun args => match args with | [.agg [.d (.str a1), .d (.int .i64 a2), .d (.int .i64 a3), .d (.int .i64 a4), .d (.int .i64 a5), .d (.int .i64 a6), .d (.str a7), .d (.str a8), .d (.int .i64 a9), .d (.int .i64 a10), .d (.str a11), .d (.str a12), .d (.str a13), .d (.str a14), .d (.int .i64 a15)], .agg [.d (.str a16), .d (.int .i64 a17), .d (.int .i64 a18), .d (.int .i64 a19), .d (.int .i64 a20), .d (.int .i64 a21), .d (.str a22), .d (.str a23), .d (.int .i64 a24), .d (.int .i64 a25), .d (.str a26), .d (.str a27), .d (.str a28), .d (.str a29), .d (.int .i64 a30)]] => fun k => g ⟨a1, a2, a3, a4, ⟨a5, a6, a7, a8, a9, a10, a11, a12⟩, a13, a14, a15⟩ ⟨a16, a17, a18, a19, ⟨a20, a21, a22, a23, a24, a25, a26, a27⟩, a28, a29, a30⟩ (fun z0 => k (.d (.int .i64 z0)) [.undef, .undef]) | _ => fun _ => none
noncomputable def code_215 : Code := (Tryz.f215.body).getD .skip
noncomputable def E_z94z (g : C_z94z) : Env A := mkE [(116, SS_strings_Compare g.strings_Compare), (121, SS_z36z g.z36z), (122, SS_z31z g.z31z)] [(2, [0]), (3, [1]), (20, [2])] [] [] [] [] [] [] [] []
theorem sm_z94z (g : C_z94z) : Same (SS_z94z (@z94z_ g)) (abody (E_z94z g) Tryz.f215 code_215 3 [] [.asis] g.N) := by intro args; unfold SS_z94z; split; exact .inr fun R k => (by kernel_rfl); exact .inl fun R k => rfl
theorem ok_z94z [Fuel] : Ok 215 (SS_z94z (@z94z _)) := okF_of std (.cons ok_strings_Compare (.cons ok_z36z (.cons ok_z31z .nil))) ⟨rfl, rfl, by kernel_rfl, rfl, rfl, rfl⟩ (sm_z94z I_z94z) (cuts0 (fun _ => rfl) (by kernel_rfl)) Tryz.func215 (by kernel_rfl) (by kernel_rfl)
abbrev T_z34z : Type 1 := List G_Deed → {R : Type} → (Int → Option R) → Option R
structure C_z34z where
 N : Nat
 net_formed : T_net_formed
 z94z : T_z94z
def z34z_L4 (g : C_z34z) : Nat → List G_Deed → List G_Deed → Int → Int → {R : Type} → (List G_Deed → Int → Option R) → (List G_Deed → Option R) → Option R
 | 0, _, _, _, _, _, _, _ => none
 | n + 1, v2, v3, v4, v5, _, e0, e1 => (bif (decide (v5 < v4)) then (get_ v3 v5 fun x10 => (g.net_formed x10 (fun r11 => (bif (r11 != 0) then e0 v2 r11 else (bif (decide (v5 > 0)) then (get_ v2 (w64 (v5 - 1)) fun x12 => (g.z94z x12 x10 (fun r13 => (bif (decide (r13 ≥ 0)) then e0 v2 7 else z34z_L4 g n v2 v3 v4 (w64 (v5 + 1)) e0 e1)))) else z34z_L4 g n v2 v3 v4 (w64 (v5 + 1)) e0 e1))))) else e1 v2)
def z34z_L14 (g : C_z34z) : Nat → List G_Deed → Int → Int → List (G_net_own × Bool) → {R : Type} → (Int → Option R) → Option R → Option R
 | 0, _, _, _, _, _, _, _ => none
 | n + 1, v17, v18, v19, v20, _, e0, e1 => (bif (decide (v19 < v18)) then (get_ v17 v19 fun x22 => (bif ((mget_net_own_bool (⟨x22.f_Site, x22.f_No⟩ : G_net_own) v20).getD false) then e0 6 else z34z_L14 g n v17 v18 (w64 (v19 + 1)) (mset_net_own_bool (⟨x22.f_Site, x22.f_No⟩ : G_net_own) true v20) e0 e1)) else e1)
def z34z_ (g : C_z34z) (a1 : List G_Deed) {R : Type} (k0 : Int → Option R) : Option R :=
 (bif (decide ((a1.length : Int) > 2000)) then k0 2 else (z34z_L4 g g.N a1 a1 (a1.length : Int) 0 (fun e14 e15 => k0 e15) (fun e16 => (z34z_L14 g g.N e16 (e16.length : Int) 0 [] (fun e23 => k0 e23) (k0 0)))))
noncomputable def I_z34z [Fuel] : C_z34z := ⟨NN, @net_formed _, @z94z _⟩
noncomputable def z34z [Fuel] : T_z34z := @z34z_ I_z34z
def SS_z34z (g : T_z34z) : Spec A := fun args => match args with | [.d (.sl 93 a1)] => fun k => g a1 (fun z0 => k (.d (.int .i64 z0)) [.undef]) | _ => fun _ => none
def sh_z34z_L4 : SSt := mkSh 56 4 [(0, .sl 93), (13, .sl 93), (14, .int .i64), (15, .int .i64)] []
def LP_z34z_L4 (g : C_z34z) (n : Nat) : LPT A := fun ps => match ps with | [.d (.sl 93 p1), .d (.sl 93 p2), .d (.int .i64 p3), .d (.int .i64 p4)] => fun K => z34z_L4 g n p1 p2 p3 p4 (fun z0 z1 => K .ret (mkSt 56 4 [(0, .d (.sl 93 z0)), (2, .d (.int .i64 z1))] [])) (fun z0 => K (.exit 0) (mkSt 56 4 [(0, .d (.sl 93 z0))] [])) | _ => fun _ => none
def sh_z34z_L14 : SSt := mkSh 56 4 [(6, .mp 1), (39, .sl 93), (40, .int .i64), (41, .int .i64)] [(1, .mp 225 4)]
def LP_z34z_L14 (g : C_z34z) (n : Nat) : LPT A := fun ps => match ps with | [.d (.sl 93 p1), .d (.int .i64 p2), .d (.int .i64 p3), .mp 225 4 p4] => fun K => z34z_L14 g n p1 p2 p3 p4 (fun z0 => K .ret (mkSt 56 4 [(2, .d (.int .i64 z0))] [])) (K (.exit 2) (mkSt 56 4 [] [])) | _ => fun _ => none
noncomputable def code_179 : Code := (Tryz.f179.body).getD .skip
noncomputable def E_z34z (g : C_z34z) : Env A := mkE [(214, SS_net_formed g.net_formed), (215, SS_z94z g.z94z)] [(4, [0]), (8, [2]), (9, [3]), (38, [1])] [(4, ⟨[0, 13, 14, 15], [], [], [], [], [], []⟩), (14, ⟨[6, 39, 40, 41], [], [1], [], [], [], []⟩)] [(4, ⟨[0, 2], [], [], [], [], [], []⟩), (14, ⟨[2], [], [], [], [], [], []⟩)] [(4, pieceOf sh_z34z_L4 (LP_z34z_L4 g g.N)), (14, pieceOf sh_z34z_L14 (LP_z34z_L14 g g.N))] [] [] [] [] []
theorem ct_z34z [Fuel] : NatTab (E_z34z I_z34z).C := ct_of (P := Tryz.prog) (T := T) (.cons ok_net_formed (.cons ok_z94z .nil)) (by kernel_rfl)
noncomputable def cb_z34z_L4 : Code := sub [1, 1, 0, 1, 0, 0] code_179
theorem s_z34z_L4 (g : C_z34z) (n : Nat) : StepOk (E_z34z g) g.N cb_z34z_L4 sh_z34z_L4 (LP_z34z_L4 g) n := by intro ps; unfold LP_z34z_L4; split; exact .inr fun R K => (by kernel_rfl); exact .inl fun R K => rfl
theorem lf_z34z_L4 [Fuel] : LoopFine (E_z34z I_z34z) NN cb_z34z_L4 := fine_loop sh_z34z_L4 (LP_z34z_L4 I_z34z) (by kernel_rfl) ct_z34z (cuts0 (fun _ => rfl) (by kernel_rfl)) (fun ps R K => by unfold LP_z34z_L4; split <;> (try unfold z34z_L4) <;> rfl) (s_z34z_L4 I_z34z)
noncomputable def cb_z34z_L14 : Code := sub [1, 1, 1, 1, 0, 1, 0, 0] code_179
theorem s_z34z_L14 (g : C_z34z) (n : Nat) : StepOk (E_z34z g) g.N cb_z34z_L14 sh_z34z_L14 (LP_z34z_L14 g) n := by intro ps; unfold LP_z34z_L14; split; exact .inr fun R K => (by kernel_rfl); exact .inl fun R K => rfl
theorem lf_z34z_L14 [Fuel] : LoopFine (E_z34z I_z34z) NN cb_z34z_L14 := fine_loop sh_z34z_L14 (LP_z34z_L14 I_z34z) (by kernel_rfl) ct_z34z (cuts0 (fun _ => rfl) (by kernel_rfl)) (fun ps R K => by unfold LP_z34z_L14; split <;> (try unfold z34z_L14) <;> rfl) (s_z34z_L14 I_z34z)
theorem sm_z34z (g : C_z34z) : Same (SS_z34z (@z34z_ g)) (abody (E_z34z g) Tryz.f179 code_179 4 [] [.asis] g.N) := by intro args; unfold SS_z34z; split; exact .inr fun R k => (by kernel_rfl); exact .inl fun R k => rfl
theorem ok_z34z [Fuel] : Ok 179 (SS_z34z (@z34z _)) := okF_of std (.cons ok_net_formed (.cons ok_z94z .nil)) ⟨rfl, rfl, by kernel_rfl, rfl, rfl, rfl⟩ (sm_z34z I_z34z) (cutsL (fun _ => rfl) (.cons lf_z34z_L4 (.cons lf_z34z_L14 .nil)) (by kernel_rfl)) Tryz.func179 (by kernel_rfl) (by kernel_rfl)
abbrev T_z85z : Type 1 := List G_Deed → Int → {R : Type} → (Int → Option R) → Option R
structure C_z85z where
 N : Nat
 z55z : T_z55z
 z34z : T_z34z
def z85z_ (g : C_z85z) (a1 : List G_Deed) (a2 : Int) {R : Type} (k0 : Int → Option R) : Option R :=
 (g.z34z a1 (fun r3 => (bif (r3 != 0) then k0 r3 else (g.z55z a2 (fun r4 => (bif (!r4) then k0 1 else k0 0))))))
noncomputable def I_z85z [Fuel] : C_z85z := ⟨NN, @z55z _, @z34z _⟩
noncomputable def z85z [Fuel] : T_z85z := @z85z_ I_z85z
def SS_z85z (g : T_z85z) : Spec A := fun args => match args with | [.d (.sl 93 a1), .d (.int .i64 a2)] => fun k => g a1 a2 (fun z0 => k (.d (.int .i64 z0)) [.undef, .undef]) | _ => fun _ => none
noncomputable def code_135 : Code := (Tryz.f135.body).getD .skip
noncomputable def E_z85z (g : C_z85z) : Env A := mkE [(74, SS_z55z g.z55z), (179, SS_z34z g.z34z)] [] [] [] [] [] [] [] [] []
theorem sm_z85z (g : C_z85z) : Same (SS_z85z (@z85z_ g)) (abody (E_z85z g) Tryz.f135 code_135 0 [] [.asis] g.N) := by intro args; unfold SS_z85z; split; exact .inr fun R k => (by kernel_rfl); exact .inl fun R k => rfl
theorem ok_z85z [Fuel] : Ok 135 (SS_z85z (@z85z _)) := okF_of std (.cons ok_z55z (.cons ok_z34z .nil)) ⟨rfl, rfl, by kernel_rfl, rfl, rfl, rfl⟩ (sm_z85z I_z85z) (cuts0 (fun _ => rfl) (by kernel_rfl)) Tryz.func135 (by kernel_rfl) (by kernel_rfl)
abbrev T_z79z : Type 1 := List G_Deed → {R : Type} → (List G_Deed → Option R) → Option R
def z79z_ (g : Nat) (a1 : List G_Deed) {R : Type} (k0 : List G_Deed → Option R) : Option R :=
 k0 a1
noncomputable def z79z [Fuel] : T_z79z := @z79z_ NN
def SS_z79z (g : T_z79z) : Spec A := fun args => match args with | [.d (.sl 93 a1)] => fun k => g a1 (fun z0 => k (.fn 238 [.box [.d (.sl 93 z0)]]) [.undef]) | _ => fun _ => none
noncomputable def code_216 : Code := (Tryz.f216.body).getD .skip
noncomputable def E_z79z (g : Nat) : Env A := mkE [] [(1, [0])] [] [] [] [] [] [] [] []
theorem sm_z79z (g : Nat) : Same (SS_z79z (@z79z_ g)) (abody (E_z79z g) Tryz.f216 code_216 1 [] [.asis] g) := by intro args; unfold SS_z79z; split; exact .inr fun R k => (by kernel_rfl); exact .inl fun R k => rfl
theorem ok_z79z [Fuel] : Ok 216 (SS_z79z (@z79z _)) := okF_of std .nil ⟨rfl, rfl, by kernel_rfl, rfl, rfl, rfl⟩ (sm_z79z NN) (cuts0 (fun _ => rfl) (by kernel_rfl)) Tryz.func216 (by kernel_rfl) (by kernel_rfl)
abbrev T_z26z : Type 1 := List G_Deed → Int → {R : Type} → (List Int → Option R) → Option R
structure C_z26z where
 N : Nat
 z41z : T_z41z
 z79z : T_z79z
def z26z_L6 (g : C_z26z) : Nat → List G_Deed → Int → List (G_net_own × Bool) → List Int → {R : Type} → (Int → List (G_net_own × Bool) → List Int → Option R) → Option R
 | 0, y0, y1, y2, y3, _, e0 => e0 y1 y2 y3
 | n + 1, l7, v4, v5, v6, _, e0 => (match l7[n]? with | none => none | some x8 => (bif (decide (x8.f_At > v4)) then z26z_L6 g n l7 v4 v5 v6 e0 else (bif ((mget_net_own_bool (⟨x8.f_Site, x8.f_No⟩ : G_net_own) v5).getD false) then z26z_L6 g n l7 v4 v5 v6 e0 else (bif (decide ((v6.length + [(n : Int)].length) * 8 ≤ roomBytes')) then (bif (x8.f_Kind == 5) then z26z_L6 g n l7 v4 (mset_net_own_bool (⟨x8.f_Of, x8.f_Other⟩ : G_net_own) true v5) (v6 ++ [(n : Int)]) e0 else z26z_L6 g n l7 v4 v5 (v6 ++ [(n : Int)]) e0) else none))))
noncomputable def raw_z26z (g : C_z26z) (a1 : List G_Deed) (a2 : Int) {R : Type} (k0 : List Int → Option R) : Option R :=
 (g.z79z a1 (fun r3 => (bif decide (r3.length < 4611686018427387904) then (z26z_L6 g r3.length r3 a2 [] [] (fun e9 e10 e11 => (g.z41z e11 (fun r12 => k0 r12)))) else none)))
def dec0_z26z (p : IV A × List (IV A)) : Option ((List Int)) := match p with | (.arr 3 b1, [.undef, .undef]) => some (b1) | _ => none
def inj0_z26z (q : (List Int)) : IV A × List (IV A) := (.arr 3 q, [.undef, .undef])
theorem hi0_z26z (p : IV A × List (IV A)) (q : (List Int)) (h : dec0_z26z p = some q) : p = inj0_z26z q := by unfold dec0_z26z at h; split at h; (cases h; rfl); cases h
noncomputable def z26z_ (g : C_z26z) (a1 : List G_Deed) (a2 : Int) {R : Type} (k0 : List Int → Option R) : Option R :=
 (raw_z26z g a1 a2 (fun z0 => some (inj0_z26z (z0)))).bind fun p => (decK dec0_z26z p (fun q => k0 q) none)
noncomputable def I_z26z [Fuel] : C_z26z := ⟨NN, @z41z _, @z79z _⟩
noncomputable def z26z [Fuel] : T_z26z := @z26z_ I_z26z
def SS_z26z (g : T_z26z) : Spec A := fun args => match args with | [.d (.sl 93 a1), .d (.int .i64 a2)] => fun k => g a1 a2 (fun z0 => k (.arr 3 z0) [.undef, .undef]) | _ => fun _ => none
def sh_z26z_L6 : SSt := mkSh 43 9 [(3, .ptr 0 0), (5, .ptr 2 0), (6, .ptr 3 0)] [(0, .box [.int .i64]), (1, .mp 225 4), (2, .box [.mp 1]), (3, .box [.own 3 5]), (5, .row 3)]
abbrev bw_z26z_L6 : Bw := ⟨238, 94, 93, 3, 4⟩
def LP_z26z_L6 (g : C_z26z) (n : Nat) (l : List (A (bw_z26z_L6).tE)) : LPT A := fun ps => match ps with | [.d (.int .i64 p1), .mp 225 4 p2, .d (.sl 3 p3)] => fun K => z26z_L6 g n l p1 p2 p3 (fun z0 z1 z2 => K .normal (mkSt 43 9 [(3, .ptr 0 0), (5, .ptr 2 0), (6, .ptr 3 0)] [(0, some (.box [.d (.int .i64 z0)])), (1, some (.mp 225 4 z1)), (2, some (.box [.mp 1])), (3, some (.box [.own 3 5])), (5, some (.row 3 z2))])) | _ => fun _ => none
noncomputable def code_180 : Code := (Tryz.f180.body).getD .skip
noncomputable def E_z26z (g : C_z26z) : Env A := mkE [(78, SS_z41z g.z41z), (216, SS_z79z g.z79z)] [(3, [0]), (5, [2]), (6, [3]), (8, [6]), (9, [1]), (11, [4]), (29, [7]), (30, [8])] [(6, ⟨[3, 5, 6], [], [0, 1, 2, 3], [(3, 0, 3, 5)], [], [], []⟩)] [(6, ⟨[3, 5, 6], [], [0, 1, 2, 3], [], [], [], []⟩)] [] [] [] [] [(78, 0)] []
noncomputable def CB_z26z (g : C_z26z) : Nat → Option (Nat → PieceB A (bw_z26z_L6).tE) := fun i => List.lookup i [(0, pieceB (bw_z26z_L6).tE sh_z26z_L6 (LP_z26z_L6 g))]
def kp_z26z : Nat → List Nat := fun i => (List.lookup i [(0, [3, 5, 6])]).getD []
theorem ct_z26z [Fuel] : NatTab (E_z26z I_z26z).C := ct_of (P := Tryz.prog) (T := T) (.cons ok_z41z (.cons ok_z79z .nil)) (by kernel_rfl)
noncomputable def bwp_z26z_L6 : BwP := (bwP Tryz.f238.body).get (by kernel_rfl)
theorem bwf_z26z_L6 : BwFine Tryz.prog T bw_z26z_L6 := ⟨bwOk_of (fn := Tryz.f238) Tryz.func238 bwp_z26z_L6 (by kernel_rfl) (by kernel_rfl) (by kernel_rfl) (by kernel_rfl) (by kernel_rfl) (by kernel_rfl) (by kernel_rfl) (by kernel_rfl) (by kernel_rfl), enters_of (fn := Tryz.f238) Tryz.func238 (by kernel_rfl) (by kernel_rfl), by kernel_rfl, by kernel_rfl, fun x => by kernel_rfl⟩
noncomputable def rp_z26z_L6 : RfP := (rfOf (sub [1, 1, 1, 0] code_180)).get (by kernel_rfl)
theorem z_z26z_L6 (g : C_z26z) : BZeroOk (bw_z26z_L6).tE sh_z26z_L6 (LP_z26z_L6 g) := by intro xs ps; unfold LP_z26z_L6; split; exact .inr fun R K => (by kernel_rfl); exact .inl fun R K => rfl
theorem s_z26z_L6 (g : C_z26z) (i : Nat) : BStepOk (E_z26z g) g.N (kp_z26z (rp_z26z_L6).B) rp_z26z_L6 (bw_z26z_L6).tE sh_z26z_L6 (LP_z26z_L6 g) i := by intro xs ps; unfold LP_z26z_L6; split; exact .inr fun R K => (by kernel_rfl); exact .inl fun R K => rfl
theorem lf_z26z_L6 [Fuel] : BOk (E_z26z I_z26z) bw_z26z_L6 (CB_z26z I_z26z) kp_z26z NN rp_z26z_L6 := fine_back sh_z26z_L6 (LP_z26z_L6 I_z26z) (by kernel_rfl) (cuts0 (fun _ => rfl) (by kernel_rfl)) (cuts0 (fun _ => rfl) (by kernel_rfl)) (z_z26z_L6 I_z26z) (s_z26z_L6 I_z26z)
theorem sm_z26z (g : C_z26z) : Same (SS_z26z (@raw_z26z g)) (abodyB (E_z26z g) bw_z26z_L6 (CB_z26z g) kp_z26z Tryz.f180 code_180 9 [] [.arr 3] g.N) := by intro args; unfold SS_z26z; split; exact .inr fun R k => (by kernel_rfl); exact .inl fun R k => rfl
theorem wh_z26z (g : C_z26z) : Whole (SS_z26z (@z26z_ g)) (SS_z26z (@raw_z26z g)) := by
 intro args R k res h
 unfold SS_z26z at h
 split at h
 ·obtain ⟨p, hp, h⟩ := Option.bind_eq_some_iff.1 h
  exact ⟨p, hp, (decK_hc (inj := inj0_z26z) hi0_z26z (fun h => (by cases h)) h)⟩
 ·cases h
theorem nx_z26z (g : C_z26z) : NatSpec (SS_z26z (@z26z_ g)) := by
 intro args R k
 unfold SS_z26z
 split
 ·unfold z26z_
  rw [Option.bind_assoc]
  exact congrArg (Option.bind _) (funext fun p => (decK_na (inj := inj0_z26z) rfl))
 ·rfl
theorem ok_z26z [Fuel] : Ok 180 (SS_z26z (@z26z _)) := okB_of std (.cons ok_z41z (.cons ok_z79z .nil)) ⟨rfl, rfl, by kernel_rfl, rfl, rfl, rfl⟩ bwf_z26z_L6 (sm_z26z I_z26z) (wh_z26z I_z26z) (nx_z26z I_z26z) (cutsB (fun _ => rfl) .nil (.cons lf_z26z_L6 .nil) (by kernel_rfl) (by kernel_rfl)) Tryz.func180 (by kernel_rfl) (by kernel_rfl)
abbrev T_net_key : Type 1 := G_Contact → {R : Type} → (G_Contact → Option R) → Option R
def net_key_ (g : Nat) (a1 : G_Contact) {R : Type} (k0 : G_Contact → Option R) : Option R :=
 k0 (⟨a1.f_At, a1.f_Mode, a1.f_Band, a1.f_Call, 0, 0, [], []⟩ : G_Contact)
noncomputable def net_key [Fuel] : T_net_key := @net_key_ NN
def SS_net_key (g : T_net_key) : Spec A := fun args => match args with | [.agg [.d (.int .i64 a1), .d (.int .i64 a2), .d (.str a3), .d (.str a4), .d (.int .i64 a5), .d (.int .i64 a6), .d (.str a7), .d (.str a8)]] => fun k => g ⟨a1, a2, a3, a4, a5, a6, a7, a8⟩ (fun z0 => k (.agg [.d (.int .i64 z0.f_At), .d (.int .i64 z0.f_Mode), .d (.str z0.f_Band), .d (.str z0.f_Call), .d (.int .i64 z0.f_Sent), .d (.int .i64 z0.f_Heard), .d (.str z0.f_Gave), .d (.str z0.f_Got)]) [.undef]) | _ => fun _ => none
noncomputable def code_181 : Code := (Tryz.f181.body).getD .skip
noncomputable def E_net_key (g : Nat) : Env A := mkE [] [(1, [0]), (2, [1])] [] [] [] [] [] [] [] []
theorem sm_net_key (g : Nat) : Same (SS_net_key (@net_key_ g)) (abody (E_net_key g) Tryz.f181 code_181 2 [] [.asis] g) := by intro args; unfold SS_net_key; split; exact .inr fun R k => (by kernel_rfl); exact .inl fun R k => rfl
theorem ok_net_key [Fuel] : Ok 181 (SS_net_key (@net_key _)) := okF_of std .nil ⟨rfl, rfl, by kernel_rfl, rfl, rfl, rfl⟩ (sm_net_key NN) (cuts0 (fun _ => rfl) (by kernel_rfl)) Tryz.func181 (by kernel_rfl) (by kernel_rfl)
abbrev T_z45z : Type 1 := List G_Contact → {R : Type} → (List G_Contact → Option R) → Option R
noncomputable def z45z [Fuel] : T_z45z := @X_sortf G_Contact (@z51z _)
def SS_z45z (g : T_z45z) : Spec A := fun args => match args with | [.arr 38 a1, .fn 73 []] => fun k => g a1 (fun z => k (.tup []) [.arr 38 z, .fn 73 []]) | _ => fun _ => none
theorem h1_z45z [Fuel] (xs : List (A 38)) (R : Type) (k : IV A → List (IV A) → Option R) : SS_z45z (@z45z _) [.arr 38 xs, .fn 73 []] k = X_sortf (α := A 38) (@z51z _) xs (fun z => k (.tup []) [.arr 38 z, .fn 73 []]) := by kernel_rfl
theorem h2_z45z [Fuel] (args : List (IV A)) (R : Type) (k : IV A → List (IV A) → Option R) (h : ∀ xs : List (A 38), args ≠ [.arr 38 xs, .fn 73 []]) : SS_z45z (@z45z _) args k = none := by unfold SS_z45z; split; exact absurd rfl (h _); rfl
theorem hc_z45z [Fuel] (x y : A 38) (R : Type) (k : Int → Option R) : callOf T (SS_z51z (@z51z _)) 38 x y k = @z51z _ x y R k := by kernel_rfl
theorem hs_z45z (x : G_Contact) : (enc_e38 x).all scal = true := rfl
theorem ok_z45z [Fuel] : Ok 182 (SS_z45z (@z45z _)) := ⟨sortf_sound (tyOk Tryz.prog) (e := 38) Tryz.sortf182 Tryz.isAgg38 Tryz.sizeOf38 (fun x d hd => List.all_eq_true.1 (hs_z45z x) d hd) hc_z45z okd_z51z.fs okd_z51z.en h1_z45z h2_z45z, sortf_na (e := 38) h1_z45z h2_z45z, enters_of (fn := Tryz.f182) Tryz.func182 (by kernel_rfl) (by kernel_rfl)⟩
abbrev T_z37z : Type 1 := List G_Deed → Int → {R : Type} → (Int → Option R) → (List G_Deed → List G_Contact → List (List UInt8) → List Int → List (G_net_own × Bool) → Int → Option R) → Option R
structure C_z37z where
 N : Nat
 z26z : T_z26z
 net_key : T_net_key
 z45z : T_z45z
def z37z_L4 (g : C_z37z) : Nat → List G_Deed → Int → Int → List (G_net_own × Bool) → List (G_Contact × G_Deed) → List Int → List G_Deed → List G_Contact → List (List UInt8) → List Int → {R : Type} → (List (G_net_own × Bool) → List (G_Contact × G_Deed) → List G_Deed → List G_Contact → List (List UInt8) → List Int → Option R) → Option R
 | 0, _, _, _, _, _, _, _, _, _, _, _, _ => none
 | n + 1, v4, v5, v6, v7, v8, v9, v10, v11, v12, v13, _, e0 => (bif (decide (v6 < v5)) then (inr v9 v6 (at_ v9 v6 fun x26 => (get_ v4 x26 fun x27 => (bif (decide ((v10.length + [x27].length) * 176 ≤ roomBytes')) then (bif (x27.f_Kind == 3) then (bif (x27.f_Kind != 1) then z37z_L4 g n v4 v5 (w64 (v6 + 1)) (mset_net_own_bool (⟨x27.f_Site, x27.f_Contact.f_Sent⟩ : G_net_own) true v7) v8 v9 (v10 ++ [x27]) v11 v12 v13 e0 else (g.net_key x27.f_Contact (fun r28 => (bif (mget_Contact_Deed r28 v8).isSome then (bif (decide ((v13.length + [x26].length) * 8 ≤ roomBytes')) then z37z_L4 g n v4 v5 (w64 (v6 + 1)) (mset_net_own_bool (⟨x27.f_Site, x27.f_Contact.f_Sent⟩ : G_net_own) true v7) v8 v9 (v10 ++ [x27]) v11 v12 (v13 ++ [x26]) e0 else none) else (g.net_key x27.f_Contact (fun r29 => (bif (decide ((v11.length + [x27.f_Contact].length) * 96 ≤ roomBytes')) then z37z_L4 g n v4 v5 (w64 (v6 + 1)) (mset_net_own_bool (⟨x27.f_Site, x27.f_Contact.f_Sent⟩ : G_net_own) true v7) (mset_Contact_Deed r29 x27 v8) v9 (v10 ++ [x27]) (v11 ++ [x27.f_Contact]) v12 v13 e0 else none))))))) else (bif (x27.f_Kind == 4) then (bif (x27.f_Kind == 4) then (bif (x27.f_Kind != 1) then z37z_L4 g n v4 v5 (w64 (v6 + 1)) (mdel_net_own_bool (⟨x27.f_Site, x27.f_Contact.f_Sent⟩ : G_net_own) v7) v8 v9 (v10 ++ [x27]) v11 v12 v13 e0 else (g.net_key x27.f_Contact (fun r30 => (bif (mget_Contact_Deed r30 v8).isSome then (bif (decide ((v13.length + [x26].length) * 8 ≤ roomBytes')) then z37z_L4 g n v4 v5 (w64 (v6 + 1)) (mdel_net_own_bool (⟨x27.f_Site, x27.f_Contact.f_Sent⟩ : G_net_own) v7) v8 v9 (v10 ++ [x27]) v11 v12 (v13 ++ [x26]) e0 else none) else (g.net_key x27.f_Contact (fun r31 => (bif (decide ((v11.length + [x27.f_Contact].length) * 96 ≤ roomBytes')) then z37z_L4 g n v4 v5 (w64 (v6 + 1)) (mdel_net_own_bool (⟨x27.f_Site, x27.f_Contact.f_Sent⟩ : G_net_own) v7) (mset_Contact_Deed r31 x27 v8) v9 (v10 ++ [x27]) (v11 ++ [x27.f_Contact]) v12 v13 e0 else none))))))) else (bif (x27.f_Kind != 1) then z37z_L4 g n v4 v5 (w64 (v6 + 1)) v7 v8 v9 (v10 ++ [x27]) v11 v12 v13 e0 else (g.net_key x27.f_Contact (fun r32 => (bif (mget_Contact_Deed r32 v8).isSome then (bif (decide ((v13.length + [x26].length) * 8 ≤ roomBytes')) then z37z_L4 g n v4 v5 (w64 (v6 + 1)) v7 v8 v9 (v10 ++ [x27]) v11 v12 (v13 ++ [x26]) e0 else none) else (g.net_key x27.f_Contact (fun r33 => (bif (decide ((v11.length + [x27.f_Contact].length) * 96 ≤ roomBytes')) then z37z_L4 g n v4 v5 (w64 (v6 + 1)) v7 (mset_Contact_Deed r33 x27 v8) v9 (v10 ++ [x27]) (v11 ++ [x27.f_Contact]) v12 v13 e0 else none)))))))) else (bif (x27.f_Kind == 1) then (bif (x27.f_Kind != 1) then z37z_L4 g n v4 v5 (w64 (v6 + 1)) (mdel_net_own_bool (⟨x27.f_Site, x27.f_Contact.f_Sent⟩ : G_net_own) v7) v8 v9 (v10 ++ [x27]) v11 v12 v13 e0 else (g.net_key x27.f_Contact (fun r34 => (bif (mget_Contact_Deed r34 v8).isSome then (bif (decide ((v13.length + [x26].length) * 8 ≤ roomBytes')) then z37z_L4 g n v4 v5 (w64 (v6 + 1)) (mdel_net_own_bool (⟨x27.f_Site, x27.f_Contact.f_Sent⟩ : G_net_own) v7) v8 v9 (v10 ++ [x27]) v11 v12 (v13 ++ [x26]) e0 else none) else (g.net_key x27.f_Contact (fun r35 => (bif (decide ((v11.length + [x27.f_Contact].length) * 96 ≤ roomBytes')) then z37z_L4 g n v4 v5 (w64 (v6 + 1)) (mdel_net_own_bool (⟨x27.f_Site, x27.f_Contact.f_Sent⟩ : G_net_own) v7) (mset_Contact_Deed r35 x27 v8) v9 (v10 ++ [x27]) (v11 ++ [x27.f_Contact]) v12 v13 e0 else none))))))) else (bif (x27.f_Kind != 1) then z37z_L4 g n v4 v5 (w64 (v6 + 1)) v7 v8 v9 (v10 ++ [x27]) v11 v12 v13 e0 else (g.net_key x27.f_Contact (fun r36 => (bif (mget_Contact_Deed r36 v8).isSome then (bif (decide ((v13.length + [x26].length) * 8 ≤ roomBytes')) then z37z_L4 g n v4 v5 (w64 (v6 + 1)) v7 v8 v9 (v10 ++ [x27]) v11 v12 (v13 ++ [x26]) e0 else none) else (g.net_key x27.f_Contact (fun r37 => (bif (decide ((v11.length + [x27.f_Contact].length) * 96 ≤ roomBytes')) then z37z_L4 g n v4 v5 (w64 (v6 + 1)) v7 (mset_Contact_Deed r37 x27 v8) v9 (v10 ++ [x27]) (v11 ++ [x27.f_Contact]) v12 v13 e0 else none)))))))))) else none)))) else e0 v7 v8 v10 v11 v12 v13)
def z37z_L25 (g : C_z37z) : Nat → Int → Int → List (G_net_own × Bool) → List (G_Contact × G_Deed) → List G_Deed → List G_Contact → List (List UInt8) → List Int → {R : Type} → (List (G_net_own × Bool) → List G_Deed → List G_Contact → List (List UInt8) → List Int → Option R) → Option R
 | 0, _, _, _, _, _, _, _, _, _, _ => none
 | n + 1, v45, v46, v47, v48, v49, v50, v51, v52, _, e0 => (bif (decide (v46 < v45)) then (inr v50 v46 (at_ v50 v46 fun x55 => (g.net_key x55 (fun r56 => (bif (decide ((v51.length + [((mget_Contact_Deed r56 v48).getD (⟨[], 0, 0, 0, (⟨0, 0, [], [], 0, 0, [], []⟩ : G_Contact), [], [], 0⟩ : G_Deed)).f_Site].length) * 16 ≤ roomBytes')) then z37z_L25 g n v45 (w64 (v46 + 1)) v47 v48 v49 v50 (v51 ++ [((mget_Contact_Deed r56 v48).getD (⟨[], 0, 0, 0, (⟨0, 0, [], [], 0, 0, [], []⟩ : G_Contact), [], [], 0⟩ : G_Deed)).f_Site]) v52 e0 else none))))) else e0 v47 v49 v50 v51 v52)
def z37z_ (g : C_z37z) (a1 : List G_Deed) (a2 : Int) {R : Type} (k0 : Int → Option R) (k1 : List G_Deed → List G_Contact → List (List UInt8) → List Int → List (G_net_own × Bool) → Int → Option R) : Option R :=
 (g.z26z a1 a2 (fun r3 => (z37z_L4 g g.N a1 (r3.length : Int) 0 [] [] r3 [] [] [] [] (fun e38 e39 e40 e41 e42 e43 => (bif (decide ((e41.length : Int) > 2000)) then k0 2 else (g.z45z e41 (fun r44 => (z37z_L25 g g.N (r44.length : Int) 0 e38 e39 e40 r44 e42 e43 (fun e57 e58 e59 e60 e61 => k1 e58 e59 e60 e61 e57 0)))))))))
noncomputable def I_z37z [Fuel] : C_z37z := ⟨NN, @z26z _, @net_key _, @z45z _⟩
noncomputable def z37z [Fuel] : T_z37z := @z37z_ I_z37z
def SS_z37z (g : T_z37z) : Spec A := fun args => match args with | [.d (.sl 93 a1), .d (.int .i64 a2)] => fun k => g a1 a2 (fun z0 => k (.tup [.d (.lit (.pointer none)), .d (.int .i64 z0)]) [.undef, .undef]) (fun z0 z1 z2 z3 z4 z5 => k (.tup [.box [.arr 93 z0, .arr 38 z1, .arr 9 z2, .arr 3 z3, .mp 225 4 z4], .d (.int .i64 z5)]) [.undef, .undef]) | _ => fun _ => none
def sh_z37z_L4 : SSt := mkSh 143 23 [(0, .sl 93), (6, .ptr 1 0), (7, .mp 2), (21, .own 3 3), (22, .int .i64), (23, .int .i64)] [(0, .mp 225 4), (1, .box [.own 93 4, .own 38 5, .own 9 6, .own 3 7, .mp 0]), (2, .mp 38 93), (3, .row 3), (4, .row 93), (5, .row 38), (6, .row 9), (7, .row 3)]
def LP_z37z_L4 (g : C_z37z) (n : Nat) : LPT A := fun ps => match ps with | [.d (.sl 93 p1), .d (.int .i64 p2), .d (.int .i64 p3), .mp 225 4 p4, .mp 38 93 p5, .d (.sl 3 p6), .d (.sl 93 p7), .d (.sl 38 p8), .d (.sl 9 p9), .d (.sl 3 p10)] => fun K => z37z_L4 g n p1 p2 p3 p4 p5 p6 p7 p8 p9 p10 (fun z0 z1 z2 z3 z4 z5 => K (.exit 0) (mkSt 143 23 [(6, .ptr 1 0), (7, .mp 2)] [(0, some (.mp 225 4 z0)), (1, some (.box [.own 93 4, .own 38 5, .own 9 6, .own 3 7, .mp 0])), (2, some (.mp 38 93 z1)), (4, some (.row 93 z2)), (5, some (.row 38 z3)), (6, some (.row 9 z4)), (7, some (.row 3 z5))])) | _ => fun _ => none
def sh_z37z_L25 : SSt := mkSh 143 23 [(6, .ptr 1 0), (7, .mp 2), (121, .own 38 17), (122, .int .i64), (123, .int .i64)] [(0, .mp 225 4), (1, .box [.own 93 16, .own 38 17, .own 9 18, .own 3 19, .mp 0]), (2, .mp 38 93), (16, .row 93), (17, .row 38), (18, .row 9), (19, .row 3)]
def LP_z37z_L25 (g : C_z37z) (n : Nat) : LPT A := fun ps => match ps with | [.d (.int .i64 p1), .d (.int .i64 p2), .mp 225 4 p3, .mp 38 93 p4, .d (.sl 93 p5), .d (.sl 38 p6), .d (.sl 9 p7), .d (.sl 3 p8)] => fun K => z37z_L25 g n p1 p2 p3 p4 p5 p6 p7 p8 (fun z0 z1 z2 z3 z4 => K (.exit 3) (mkSt 143 23 [(6, .ptr 1 0)] [(0, some (.mp 225 4 z0)), (1, some (.box [.own 93 16, .own 38 17, .own 9 18, .own 3 19, .mp 0])), (16, some (.row 93 z1)), (17, some (.row 38 z2)), (18, some (.row 9 z3)), (19, some (.row 3 z4))])) | _ => fun _ => none
noncomputable def code_136 : Code := (Tryz.f136.body).getD .skip
noncomputable def E_z37z (g : C_z37z) : Env A := mkE [(180, SS_z26z g.z26z), (181, SS_net_key g.net_key), (182, SS_z45z g.z45z)] [(10, [8]), (11, [11]), (14, [20]), (15, [0]), (17, [1]), (18, [2]), (21, [3]), (37, [9]), (38, [10]), (86, [12]), (87, [13]), (102, [14]), (103, [15]), (137, [21]), (138, [22])] [(4, ⟨[0, 6, 7, 21, 22, 23], [], [0, 1, 2, 3], [(1, 0, 93, 4), (1, 1, 38, 5), (1, 2, 9, 6), (1, 3, 3, 7)], [], [], []⟩), (25, ⟨[6, 7, 121, 122, 123], [], [0, 1, 2], [(1, 0, 93, 16), (1, 1, 38, 17), (1, 2, 9, 18), (1, 3, 3, 19)], [], [], []⟩)] [(4, ⟨[6, 7], [], [0, 1, 2, 4, 5, 6, 7], [], [], [], []⟩), (25, ⟨[6], [], [0, 1, 16, 17, 18, 19], [], [], [], []⟩)] [(4, pieceOf sh_z37z_L4 (LP_z37z_L4 g g.N)), (25, pieceOf sh_z37z_L25 (LP_z37z_L25 g g.N))] [] [] [] [(182, 0)] []
theorem ct_z37z [Fuel] : NatTab (E_z37z I_z37z).C := ct_of (P := Tryz.prog) (T := T) (.cons ok_z26z (.cons ok_net_key (.cons ok_z45z .nil))) (by kernel_rfl)
noncomputable def cb_z37z_L4 : Code := sub [1, 1, 1, 0, 1, 0, 0] code_136
theorem s_z37z_L4 (g : C_z37z) (n : Nat) : StepOk (E_z37z g) g.N cb_z37z_L4 sh_z37z_L4 (LP_z37z_L4 g) n := by intro ps; unfold LP_z37z_L4; split; exact .inr fun R K => (by kernel_rfl); exact .inl fun R K => rfl
theorem lf_z37z_L4 [Fuel] : LoopFine (E_z37z I_z37z) NN cb_z37z_L4 := fine_loop sh_z37z_L4 (LP_z37z_L4 I_z37z) (by kernel_rfl) ct_z37z (cuts0 (fun _ => rfl) (by kernel_rfl)) (fun ps R K => by unfold LP_z37z_L4; split <;> (try unfold z37z_L4) <;> rfl) (s_z37z_L4 I_z37z)
noncomputable def cb_z37z_L25 : Code := sub [1, 1, 1, 1, 1, 1, 0, 1, 0, 0] code_136
theorem s_z37z_L25 (g : C_z37z) (n : Nat) : StepOk (E_z37z g) g.N cb_z37z_L25 sh_z37z_L25 (LP_z37z_L25 g) n := by intro ps; unfold LP_z37z_L25; split; exact .inr fun R K => (by kernel_rfl); exact .inl fun R K => rfl
theorem lf_z37z_L25 [Fuel] : LoopFine (E_z37z I_z37z) NN cb_z37z_L25 := fine_loop sh_z37z_L25 (LP_z37z_L25 I_z37z) (by kernel_rfl) ct_z37z (cuts0 (fun _ => rfl) (by kernel_rfl)) (fun ps R K => by unfold LP_z37z_L25; split <;> (try unfold z37z_L25) <;> rfl) (s_z37z_L25 I_z37z)
theorem sm_z37z (g : C_z37z) : Same (SS_z37z (@z37z_ g)) (abody (E_z37z g) Tryz.f136 code_136 23 [] [.asis, .asis] g.N) := by intro args; unfold SS_z37z; split; exact .inr fun R k => (by kernel_rfl); exact .inl fun R k => rfl
theorem ok_z37z [Fuel] : Ok 136 (SS_z37z (@z37z _)) := okF_of std (.cons ok_z26z (.cons ok_net_key (.cons ok_z45z .nil))) ⟨rfl, rfl, by kernel_rfl, rfl, rfl, rfl⟩ (sm_z37z I_z37z) (cutsL (fun _ => rfl) (.cons lf_z37z_L4 (.cons lf_z37z_L25 .nil)) (by kernel_rfl)) Tryz.func136 (by kernel_rfl) (by kernel_rfl)
abbrev T_z81z : Type 1 := List G_Deed → Int → {R : Type} → (Int → Option R) → (List G_Deed → List G_Contact → List (List UInt8) → List Int → List (G_net_own × Bool) → Int → Option R) → Option R
structure C_z81z where
 N : Nat
 z85z : T_z85z
 z37z : T_z37z
def z81z_ (g : C_z81z) (a1 : List G_Deed) (a2 : Int) {R : Type} (k0 : Int → Option R) (k1 : List G_Deed → List G_Contact → List (List UInt8) → List Int → List (G_net_own × Bool) → Int → Option R) : Option R :=
 (g.z85z a1 a2 (fun r3 => (bif (r3 != 0) then k0 r3 else (g.z37z a1 a2 (fun r4 => k0 r4) (fun r5 r6 r7 r8 r9 r10 => k1 r5 r6 r7 r8 r9 r10)))))
noncomputable def I_z81z [Fuel] : C_z81z := ⟨NN, @z85z _, @z37z _⟩
noncomputable def z81z [Fuel] : T_z81z := @z81z_ I_z81z
def SS_z81z (g : T_z81z) : Spec A := fun args => match args with | [.d (.sl 93 a1), .d (.int .i64 a2)] => fun k => g a1 a2 (fun z0 => k (.tup [.d (.lit (.pointer none)), .d (.int .i64 z0)]) [.undef, .undef]) (fun z0 z1 z2 z3 z4 z5 => k (.tup [.box [.arr 93 z0, .arr 38 z1, .arr 9 z2, .arr 3 z3, .mp 225 4 z4], .d (.int .i64 z5)]) [.undef, .undef]) | _ => fun _ => none
noncomputable def code_87 : Code := (Tryz.f87.body).getD .skip
noncomputable def E_z81z (g : C_z81z) : Env A := mkE [(135, SS_z85z g.z85z), (136, SS_z37z g.z37z)] [(15, [0, 1, 2, 3, 4, 5])] [] [] [] [] [] [] [] []
theorem sm_z81z (g : C_z81z) : Same (SS_z81z (@z81z_ g)) (abody (E_z81z g) Tryz.f87 code_87 6 [] [.asis, .asis] g.N) := by intro args; unfold SS_z81z; split; exact .inr fun R k => (by kernel_rfl); exact .inl fun R k => rfl
theorem ok_z81z [Fuel] : Ok 87 (SS_z81z (@z81z _)) := okF_of std (.cons ok_z85z (.cons ok_z37z .nil)) ⟨rfl, rfl, by kernel_rfl, rfl, rfl, rfl⟩ (sm_z81z I_z81z) (cuts0 (fun _ => rfl) (by kernel_rfl)) Tryz.func87 (by kernel_rfl) (by kernel_rfl)
abbrev T_z82z : Type 1 := {R : Type} → Option R
def z82z_ (g : Nat)  {R : Type}  : Option R :=
 none
noncomputable def z82z [Fuel] : T_z82z := @z82z_ NN
def SS_z82z (g : T_z82z) : Spec A := fun args => match args with | [.d (.lit (.pointer none))] => fun k => g | _ => fun _ => none
noncomputable def code_137 : Code := (Tryz.f137.body).getD .skip
noncomputable def E_z82z (g : Nat) : Env A := mkE [] [(6, [0])] [] [] [] [] [] [] [] []
noncomputable def cb_z82z_L3 : Code := sub [1, 1, 0, 1, 0, 0] code_137
theorem lf_z82z_L3 [Fuel] : LoopFine (E_z82z NN) NN cb_z82z_L3 := no_loop (by kernel_rfl)
theorem sm_z82z (g : Nat) : Same (SS_z82z (@z82z_ g)) (abody (E_z82z g) Tryz.f137 code_137 1 [] [.asis] g) := by intro args; unfold SS_z82z; split; exact .inr fun R k => (by kernel_rfl); exact .inl fun R k => rfl
theorem ok_z82z [Fuel] : Ok 137 (SS_z82z (@z82z _)) := okF_of std .nil ⟨rfl, rfl, by kernel_rfl, rfl, rfl, rfl⟩ (sm_z82z NN) (cutsL (fun _ => rfl) (.cons lf_z82z_L3 .nil) (by kernel_rfl)) Tryz.func137 (by kernel_rfl) (by kernel_rfl)
abbrev T_z68z : Type 1 := {R : Type} → Option R
structure C_z68z where
 N : Nat
 z82z : T_z82z
def z68z_ (g : C_z68z)  {R : Type}  : Option R :=
 (g.z82z)
noncomputable def I_z68z [Fuel] : C_z68z := ⟨NN, @z82z _⟩
noncomputable def z68z [Fuel] : T_z68z := @z68z_ I_z68z
def SS_z68z (g : T_z68z) : Spec A := fun args => match args with | [.d (.lit (.pointer none))] => fun k => g | _ => fun _ => none
noncomputable def code_88 : Code := (Tryz.f88.body).getD .skip
noncomputable def E_z68z (g : C_z68z) : Env A := mkE [(137, SS_z82z g.z82z)] [] [] [] [] [] [] [] [] []
noncomputable def cb_z68z_L3 : Code := sub [1, 1, 0, 1, 0, 0] code_88
theorem lf_z68z_L3 [Fuel] : LoopFine (E_z68z I_z68z) NN cb_z68z_L3 := no_loop (by kernel_rfl)
theorem sm_z68z (g : C_z68z) : Same (SS_z68z (@z68z_ g)) (abody (E_z68z g) Tryz.f88 code_88 0 [] [.asis, .asis] g.N) := by intro args; unfold SS_z68z; split; exact .inr fun R k => (by kernel_rfl); exact .inl fun R k => rfl
theorem ok_z68z [Fuel] : Ok 88 (SS_z68z (@z68z _)) := okF_of std (.cons ok_z82z .nil) ⟨rfl, rfl, by kernel_rfl, rfl, rfl, rfl⟩ (sm_z68z I_z68z) (cutsL (fun _ => rfl) (.cons lf_z68z_L3 .nil) (by kernel_rfl)) Tryz.func88 (by kernel_rfl) (by kernel_rfl)
abbrev T_z40z : Type 1 := List G_Deed → List G_Contact → List (List UInt8) → List Int → List (G_net_own × Bool) → {R : Type} → (List (Int × Int) → List G_Deed → List G_Contact → List (List UInt8) → List Int → List (G_net_own × Bool) → Option R) → Option R
def z40z_L3 (g : Nat) : Nat → Int → Int → List (G_net_own × Bool) → List (Int × Int) → List G_Deed → List G_Contact → List (List UInt8) → List Int → {R : Type} → (List (G_net_own × Bool) → List (Int × Int) → List G_Deed → List G_Contact → List (List UInt8) → List Int → Option R) → Option R
 | 0, _, _, _, _, _, _, _, _, _, _ => none
 | n + 1, v6, v7, v8, v9, v10, v11, v12, v13, _, e0 => (bif (decide (v7 < v6)) then (inr v11 v7 (at_ v11 v7 fun x15 => (bif (decide (x15.f_Sent > 0)) then z40z_L3 g n v6 (w64 (v7 + 1)) v8 (mset_int_int x15.f_Sent (w64 (((mget_int_int x15.f_Sent v9).getD 0) + 1)) v9) v10 v11 v12 v13 e0 else z40z_L3 g n v6 (w64 (v7 + 1)) v8 v9 v10 v11 v12 v13 e0))) else e0 v8 v9 v10 v11 v12 v13)
def z40z_ (g : Nat) (a1 : List G_Deed) (a2 : List G_Contact) (a3 : List (List UInt8)) (a4 : List Int) (a5 : List (G_net_own × Bool)) {R : Type} (k0 : List (Int × Int) → List G_Deed → List G_Contact → List (List UInt8) → List Int → List (G_net_own × Bool) → Option R) : Option R :=
 (z40z_L3 g g (a2.length : Int) 0 a5 [] a1 a2 a3 a4 (fun e16 e17 e18 e19 e20 e21 => k0 e17 e18 e19 e20 e21 e16))
noncomputable def z40z [Fuel] : T_z40z := @z40z_ NN
def SS_z40z (g : T_z40z) : Spec A := fun args => match args with | [.box [.arr 93 a1, .arr 38 a2, .arr 9 a3, .arr 3 a4, .mp 225 4 a5]] => fun k => g a1 a2 a3 a4 a5 (fun z0 z1 z2 z3 z4 z5 => k (.mp 3 3 z0) [.box [.arr 93 z1, .arr 38 z2, .arr 9 z3, .arr 3 z4, .mp 225 4 z5]]) | _ => fun _ => none
def sh_z40z_L3 : SSt := mkSh 26 12 [(0, .ptr 0 0), (3, .mp 6), (10, .own 38 8), (11, .int .i64), (12, .int .i64)] [(0, .box [.own 93 7, .own 38 8, .own 9 9, .own 3 10, .mp 5]), (5, .mp 225 4), (6, .mp 3 3), (7, .row 93), (8, .row 38), (9, .row 9), (10, .row 3)]
def LP_z40z_L3 (g : Nat) (n : Nat) : LPT A := fun ps => match ps with | [.d (.int .i64 p1), .d (.int .i64 p2), .mp 225 4 p3, .mp 3 3 p4, .d (.sl 93 p5), .d (.sl 38 p6), .d (.sl 9 p7), .d (.sl 3 p8)] => fun K => z40z_L3 g n p1 p2 p3 p4 p5 p6 p7 p8 (fun z0 z1 z2 z3 z4 z5 => K (.exit 0) (mkSt 26 12 [(0, .ptr 0 0), (3, .mp 6)] [(0, some (.box [.own 93 7, .own 38 8, .own 9 9, .own 3 10, .mp 5])), (5, some (.mp 225 4 z0)), (6, some (.mp 3 3 z1)), (7, some (.row 93 z2)), (8, some (.row 38 z3)), (9, some (.row 9 z4)), (10, some (.row 3 z5))])) | _ => fun _ => none
noncomputable def E_z40z (g : Nat) : Env A := mkE [] [(5, [11]), (6, [6])] [(3, ⟨[0, 3, 10, 11, 12], [], [0, 5, 6], [(0, 0, 93, 7), (0, 1, 38, 8), (0, 2, 9, 9), (0, 3, 3, 10)], [], [], []⟩)] [(3, ⟨[0, 3], [], [0, 5, 6, 7, 8, 9, 10], [], [], [], []⟩)] [(3, pieceOf sh_z40z_L3 (LP_z40z_L3 g g))] [] [] [] [] [0]
theorem ct_z40z [Fuel] : NatTab (E_z40z NN).C := ct_of (P := Tryz.prog) (T := T) .nil (by kernel_rfl)
noncomputable def cb_z40z_L3 : Code := sub [1, 1, 0, 1, 0, 0] code_137
theorem s_z40z_L3 (g : Nat) (n : Nat) : StepOk (E_z40z g) g cb_z40z_L3 sh_z40z_L3 (LP_z40z_L3 g) n := by intro ps; unfold LP_z40z_L3; split; exact .inr fun R K => (by kernel_rfl); exact .inl fun R K => rfl
theorem lf_z40z_L3 [Fuel] : LoopFine (E_z40z NN) NN cb_z40z_L3 := fine_loop sh_z40z_L3 (LP_z40z_L3 NN) (by kernel_rfl) ct_z40z (cuts0 (fun _ => rfl) (by kernel_rfl)) (fun ps R K => by unfold LP_z40z_L3; split <;> (try unfold z40z_L3) <;> rfl) (s_z40z_L3 NN)
theorem sm_z40z (g : Nat) : Same (SS_z40z (@z40z_ g)) (abody (E_z40z g) Tryz.f137 code_137 12 [0, 1, 2, 3, 4, 5] [.asis] g) := by intro args; unfold SS_z40z; split; exact .inr fun R k => (by kernel_rfl); exact .inl fun R k => rfl
theorem ok_z40z [Fuel] : Ok 137 (SS_z40z (@z40z _)) := okF_of std .nil ⟨rfl, rfl, by kernel_rfl, rfl, rfl, rfl⟩ (sm_z40z NN) (cutsL (fun _ => rfl) (.cons lf_z40z_L3 .nil) (by kernel_rfl)) Tryz.func137 (by kernel_rfl) (by kernel_rfl)
end Go.Am
