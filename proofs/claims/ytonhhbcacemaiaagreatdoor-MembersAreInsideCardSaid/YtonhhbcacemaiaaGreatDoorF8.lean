/- The functions of the program as Lean functions, each shown to be what the code computes, part 8. No condition: lemmas for the claim. -/
import Derived.Test.YtonhhbcacemaiaaGreatDoorF0
import Derived.Test.YtonhhbcacemaiaaGreatDoorFSh
import Derived.Test.YtonhhbcacemaiaaGreatDoorF3
import Derived.Test.YtonhhbcacemaiaaGreatDoorF4
import Derived.Test.YtonhhbcacemaiaaGreatDoorF5
import Derived.Test.YtonhhbcacemaiaaGreatDoorF6
import Derived.Test.YtonhhbcacemaiaaGreatDoorF7
set_option linter.unusedVariables false
set_option maxRecDepth 100000
namespace Go.Am
open Go Go.Proofs
abbrev T_z24z : Type 1 := List G_Deed → List G_Contact → List (List UInt8) → List Int → List (G_net_own × Bool) → {R : Type} → (Int → Int → List G_Deed → List G_Contact → List (List UInt8) → List Int → List (G_net_own × Bool) → Option R) → Option R
structure C_z24z where
 N : Nat
 z43z : T_z43z
 z12z : T_z12z
def z24z_L3 (g : C_z24z) : Nat → Int → List (Int × Int) → List (G_net_own × Bool) → List (Int × Int) → List G_Deed → List G_Contact → List (List UInt8) → List Int → {R : Type} → (Int → Int → List (G_net_own × Bool) → List G_Deed → List G_Contact → List (List UInt8) → List Int → Option R) → (List (G_net_own × Bool) → List G_Deed → List G_Contact → List (List UInt8) → List Int → Option R) → Option R
 | 0, _, _, _, _, _, _, _, _, _, _, _ => none
 | n + 1, v18, v19, v20, v21, v22, v23, v24, v25, _, e0, e1 => (bif (decide (v18 ≤ 99999)) then (bif (((mget_int_int v18 v19).getD 0) == 0) then (bif (((mget_int_int v18 v21).getD 0) == 0) then e0 v18 0 v20 v22 v23 v24 v25 else z24z_L3 g n (w64 (v18 + 1)) v19 v20 v21 v22 v23 v24 v25 e0 e1) else z24z_L3 g n (w64 (v18 + 1)) v19 v20 v21 v22 v23 v24 v25 e0 e1) else e1 v20 v22 v23 v24 v25)
def z24z_ (g : C_z24z) (a1 : List G_Deed) (a2 : List G_Contact) (a3 : List (List UInt8)) (a4 : List Int) (a5 : List (G_net_own × Bool)) {R : Type} (k0 : Int → Int → List G_Deed → List G_Contact → List (List UInt8) → List Int → List (G_net_own × Bool) → Option R) : Option R :=
 (g.z43z a1 a2 a3 a4 a5 (fun r6 r7 r8 r9 r10 r11 => (g.z12z r7 r8 r9 r10 r11 (fun r12 r13 r14 r15 r16 r17 => (z24z_L3 g g.N 1 r6 r17 r12 r13 r14 r15 r16 (fun e26 e27 e28 e29 e30 e31 e32 => k0 e26 e27 e29 e30 e31 e32 e28) (fun e33 e34 e35 e36 e37 => k0 0 12 e34 e35 e36 e37 e33))))))
noncomputable def I_z24z [Fuel] : C_z24z := ⟨NN, @z43z _, @z12z _⟩
noncomputable def z24z [Fuel] : T_z24z := @z24z_ I_z24z
def p_z24z (args : List (IV A)) : Bool := match args with | [.box [.arr 117 _, .arr 104 _, .arr 9 _, .arr 3 _, .mp 256 4 _]] => true | _ => false
def SS_z24z (g : T_z24z) : Spec A := fun args => match args with | [.box [.arr 117 a1, .arr 104 a2, .arr 9 a3, .arr 3 a4, .mp 256 4 a5]] => fun k => g a1 a2 a3 a4 a5 (fun z0 z1 z2 z3 z4 z5 z6 => k (.tup [.d (.int .i64 z0), .d (.int .i64 z1)]) [.box [.arr 117 z2, .arr 104 z3, .arr 9 z4, .arr 3 z5, .mp 256 4 z6]]) | _ => fun _ => none
def sh_z24z_L3 : SSt := mkSh 26 22 [(0, .ptr 0 0), (4, .mp 11), (5, .mp 17), (6, .int .i64)] [(0, .box [.own 117 18, .own 104 19, .own 9 20, .own 3 21, .mp 16]), (11, .mp 3 3), (16, .mp 256 4), (17, .mp 3 3), (18, .row 117), (19, .row 104), (20, .row 9), (21, .row 3)]
def LP_z24z_L3 (g : C_z24z) (n : Nat) : LPT A := fun ps => match ps with | [.d (.int .i64 p1), .mp 3 3 p2, .mp 256 4 p3, .mp 3 3 p4, .d (.sl 117 p5), .d (.sl 104 p6), .d (.sl 9 p7), .d (.sl 3 p8)] => fun K => z24z_L3 g n p1 p2 p3 p4 p5 p6 p7 p8 (fun z0 z1 z2 z3 z4 z5 z6 => K .ret (mkSt 26 22 [(0, .ptr 0 0), (2, .d (.int .i64 z0)), (3, .d (.int .i64 z1))] [(0, some (.box [.own 117 18, .own 104 19, .own 9 20, .own 3 21, .mp 16])), (16, some (.mp 256 4 z2)), (18, some (.row 117 z3)), (19, some (.row 104 z4)), (20, some (.row 9 z5)), (21, some (.row 3 z6))])) (fun z0 z1 z2 z3 z4 => K (.exit 0) (mkSt 26 22 [(0, .ptr 0 0)] [(0, some (.box [.own 117 18, .own 104 19, .own 9 20, .own 3 21, .mp 16])), (16, some (.mp 256 4 z0)), (18, some (.row 117 z1)), (19, some (.row 104 z2)), (20, some (.row 9 z3)), (21, some (.row 3 z4))])) | _ => fun _ => none
noncomputable def E_z24z (g : C_z24z) : Env A := mkE [(171, SS_z43z g.z43z), (172, SS_z12z g.z12z)] [(8, [6, 7, 8, 9, 10, 11]), (10, [12, 13, 14, 15, 16, 17])] [(3, ⟨[0, 4, 5, 6], [], [0, 11, 16, 17], [(0, 0, 117, 18), (0, 1, 104, 19), (0, 2, 9, 20), (0, 3, 3, 21)], [], []⟩)] [(3, ⟨[0, 2, 3], [], [0, 16, 18, 19, 20, 21], [], [], []⟩)] [(3, pieceOf sh_z24z_L3 (LP_z24z_L3 g g.N))] [] [] [] [] [0]
theorem ct_z24z [Fuel] : NatTab (E_z24z I_z24z).C := ct_of (P := Tryz.prog) (T := T) (.cons ok_z43z (.cons ok_z12z .nil)) (by kernel_rfl)
noncomputable def cb_z24z_L3 : Code := sub [1, 1, 0, 1, 0, 0] code_121
theorem s_z24z_L3 (g : C_z24z) (n : Nat) : StepOk (E_z24z g) g.N cb_z24z_L3 sh_z24z_L3 (LP_z24z_L3 g) n := by intro ps; unfold LP_z24z_L3; split; exact .inr fun R K => (by kernel_rfl); exact .inl fun R K => rfl
theorem lf_z24z_L3 [Fuel] : LoopFine (E_z24z I_z24z) NN cb_z24z_L3 := fine_loop sh_z24z_L3 (LP_z24z_L3 I_z24z) (by kernel_rfl) ct_z24z (cuts0 (fun _ => rfl) (by kernel_rfl)) (fun ps R K => by unfold LP_z24z_L3; split <;> (try unfold z24z_L3) <;> rfl) (s_z24z_L3 I_z24z)
theorem sm_z24z (g : C_z24z) : Same (SS_z24z (@z24z_ g)) (abody (E_z24z g) Tryz.f121 code_121 22 [0, 1, 2, 3, 4, 5] [.asis, .asis] g.N) := by intro args; unfold SS_z24z; split; exact .inr fun R k => (by kernel_rfl); exact .inl fun R k => rfl
theorem ok_z24z [Fuel] : Ok 121 (SS_z24z (@z24z _)) := okF_of std (.cons ok_z43z (.cons ok_z12z .nil)) ⟨rfl, rfl, by kernel_rfl, rfl, rfl, rfl⟩ (sm_z24z I_z24z) (cutsL (fun _ => rfl) (.cons lf_z24z_L3 .nil) (by kernel_rfl)) Tryz.func121 (by kernel_rfl) (by kernel_rfl)
abbrev T_net_Next : Type 1 := List G_Deed → Int → {R : Type} → (Int → Int → Option R) → Option R
structure C_net_Next where
 N : Nat
 z80z : T_z80z
 z24z : T_z24z
 z69z : T_z69z
def net_Next_ (g : C_net_Next) (a1 : List G_Deed) (a2 : Int) {R : Type} (k0 : Int → Int → Option R) : Option R :=
 (g.z80z a1 a2 (fun r3 => (bif (r3 != 0) then k0 0 r3 else (g.z69z))) (fun r4 r5 r6 r7 r8 r9 => (bif (r9 != 0) then k0 0 r9 else (g.z24z r4 r5 r6 r7 r8 (fun r10 r11 r12 r13 r14 r15 r16 => k0 r10 r11)))))
noncomputable def I_net_Next [Fuel] : C_net_Next := ⟨NN, @z80z _, @z24z _, @z69z _⟩
noncomputable def net_Next [Fuel] : T_net_Next := @net_Next_ I_net_Next
def SS_net_Next (g : T_net_Next) : Spec A := fun args => match args with | [.d (.sl 117 a1), .d (.int .i64 a2)] => fun k => g a1 a2 (fun z0 z1 => k (.tup [.d (.int .i64 z0), .d (.int .i64 z1)]) [.undef, .undef]) | _ => fun _ => none
noncomputable def code_59 : Code := (Tryz.f59.body).getD .skip
noncomputable def E_net_Next (g : C_net_Next) : Env A := mkE [(120, SS_z80z g.z80z), (121, orS p_z24z (SS_z24z g.z24z) (SS_z69z g.z69z))] [(11, [0, 1, 2, 3, 4, 5]), (18, [6, 7, 8, 9, 10])] [] [] [] [] [] [] [] []
theorem sm_net_Next (g : C_net_Next) : Same (SS_net_Next (@net_Next_ g)) (abody (E_net_Next g) Tryz.f59 code_59 11 [] [.asis, .asis] g.N) := by intro args; unfold SS_net_Next; split; exact .inr fun R k => (by kernel_rfl); exact .inl fun R k => rfl
theorem ok_net_Next [Fuel] : Ok 59 (SS_net_Next (@net_Next _)) := okF_of std (.cons ok_z80z (.cons (ok_or p_z24z ok_z24z ok_z69z) .nil)) ⟨rfl, rfl, by kernel_rfl, rfl, rfl, rfl⟩ (sm_net_Next I_net_Next) (cuts0 (fun _ => rfl) (by kernel_rfl)) Tryz.func59 (by kernel_rfl) (by kernel_rfl)
abbrev T_keep_errs : Type 1 := List Int → {R : Type} → (Int → Option R) → Option R
def keep_errs_L2 (g : Nat) : Nat → List Int → Int → Int → {R : Type} → (Int → Option R) → Option R → Option R
 | 0, _, _, _, _, _, _ => none
 | n + 1, v2, v3, v4, _, e0, e1 => (bif (decide (v4 < v3)) then (get_ v2 v4 fun x6 => (bif (x6 != 0) then e0 x6 else keep_errs_L2 g n v2 v3 (w64 (v4 + 1)) e0 e1)) else e1)
def keep_errs_ (g : Nat) (a1 : List Int) {R : Type} (k0 : Int → Option R) : Option R :=
 (keep_errs_L2 g g a1 (a1.length : Int) 0 (fun e7 => k0 e7) (k0 0))
noncomputable def keep_errs [Fuel] : T_keep_errs := @keep_errs_ NN
def SS_keep_errs (g : T_keep_errs) : Spec A := fun args => match args with | [.d (.sl 30 a1)] => fun k => g a1 (fun z0 => k (.d (.int .i64 z0)) [.undef]) | _ => fun _ => none
def sh_keep_errs_L2 : SSt := mkSh 15 0 [(5, .sl 30), (6, .int .i64), (7, .int .i64)] []
def LP_keep_errs_L2 (g : Nat) (n : Nat) : LPT A := fun ps => match ps with | [.d (.sl 30 p1), .d (.int .i64 p2), .d (.int .i64 p3)] => fun K => keep_errs_L2 g n p1 p2 p3 (fun z0 => K .ret (mkSt 15 0 [(2, .d (.int .i64 z0))] [])) (K (.exit 0) (mkSt 15 0 [] [])) | _ => fun _ => none
noncomputable def code_18 : Code := (Tryz.f18.body).getD .skip
noncomputable def E_keep_errs (g : Nat) : Env A := mkE [] [] [(2, ⟨[5, 6, 7], [], [], [], [], []⟩)] [(2, ⟨[2], [], [], [], [], []⟩)] [(2, pieceOf sh_keep_errs_L2 (LP_keep_errs_L2 g g))] [] [] [] [] []
theorem ct_keep_errs [Fuel] : NatTab (E_keep_errs NN).C := ct_of (P := Tryz.prog) (T := T) .nil (by kernel_rfl)
noncomputable def cb_keep_errs_L2 : Code := sub [1, 0, 1, 0, 0] code_18
theorem s_keep_errs_L2 (g : Nat) (n : Nat) : StepOk (E_keep_errs g) g cb_keep_errs_L2 sh_keep_errs_L2 (LP_keep_errs_L2 g) n := by intro ps; unfold LP_keep_errs_L2; split; exact .inr fun R K => (by kernel_rfl); exact .inl fun R K => rfl
theorem lf_keep_errs_L2 [Fuel] : LoopFine (E_keep_errs NN) NN cb_keep_errs_L2 := fine_loop sh_keep_errs_L2 (LP_keep_errs_L2 NN) (by kernel_rfl) ct_keep_errs (cuts0 (fun _ => rfl) (by kernel_rfl)) (fun ps R K => by unfold LP_keep_errs_L2; split <;> (try unfold keep_errs_L2) <;> rfl) (s_keep_errs_L2 NN)
theorem sm_keep_errs (g : Nat) : Same (SS_keep_errs (@keep_errs_ g)) (abody (E_keep_errs g) Tryz.f18 code_18 0 [] [.asis] g) := by intro args; unfold SS_keep_errs; split; exact .inr fun R k => (by kernel_rfl); exact .inl fun R k => rfl
theorem ok_keep_errs [Fuel] : Ok 18 (SS_keep_errs (@keep_errs _)) := okF_of std .nil ⟨rfl, rfl, by kernel_rfl, rfl, rfl, rfl⟩ (sm_keep_errs NN) (cutsL (fun _ => rfl) (.cons lf_keep_errs_L2 .nil) (by kernel_rfl)) Tryz.func18 (by kernel_rfl) (by kernel_rfl)
abbrev T_keep_ready : Type 1 := {R : Type} → (Bool → Option R) → Option R
structure C_keep_ready where
 N : Nat
 band_May : T_band_May
 keep_errs : T_keep_errs
 log_Dupes : T_log_Dupes
 club_Table : T_club_Table
 net_Next : T_net_Next
def keep_ready_ (g : C_keep_ready)  {R : Type} (k0 : Bool → Option R) : Option R :=
 (g.log_Dupes [(⟨0, 1, [98], [107, 49, 97, 98], 0, 0, [], []⟩ : G_Contact), (⟨5, 1, [98], [107, 49, 97, 98], 0, 0, [], []⟩ : G_Contact)] (fun r1 r2 => (g.band_May [(⟨[99], 5, 8, [1], (⟨0, 9⟩ : G_Window)⟩ : G_Segment)] [99] 6 3 1 0 (fun r3 r4 => (g.club_Table [(⟨[107, 49, 97, 98], [99], 5, []⟩ : G_Entrant)] [99] (fun r5 r6 => (g.net_Next [(⟨[97], 1, 0, 3, (⟨0, 0, [], [], 1, 0, [], []⟩ : G_Contact), [], [], 0⟩ : G_Deed)] 0 (fun r7 r8 => (g.keep_errs [r2, r4, r6, r8] (fun r9 => (bif (r9 == 0) then (bif ((r1.length : Int) == 1) then (bif r3 then (bif ((r5.length : Int) == 1) then k0 (r7 == 2) else k0 false) else k0 false) else k0 false) else k0 false)))))))))))
noncomputable def I_keep_ready [Fuel] : C_keep_ready := ⟨NN, @band_May _, @keep_errs _, @log_Dupes _, @club_Table _, @net_Next _⟩
noncomputable def keep_ready [Fuel] : T_keep_ready := @keep_ready_ I_keep_ready
def SS_keep_ready (g : T_keep_ready) : Spec A := fun args => match args with | [] => fun k => g (fun z0 => k (.d (.bool z0)) []) | _ => fun _ => none
noncomputable def code_11 : Code := (Tryz.f11.body).getD .skip
noncomputable def E_keep_ready (g : C_keep_ready) : Env A := mkE [(12, SS_band_May g.band_May), (18, SS_keep_errs g.keep_errs), (57, SS_log_Dupes g.log_Dupes), (58, SS_club_Table g.club_Table), (59, SS_net_Next g.net_Next)] [(1, [0]), (2, [1]), (17, [2]), (18, [3]), (22, [4]), (25, [5]), (31, [6]), (32, [7]), (38, [8]), (46, [9])] [] [] [] [] [] [] [] []
theorem sm_keep_ready (g : C_keep_ready) : Same (SS_keep_ready (@keep_ready_ g)) (abody (E_keep_ready g) Tryz.f11 code_11 10 [] [.asis] g.N) := by intro args; unfold SS_keep_ready; split; exact .inr fun R k => (by kernel_rfl); exact .inl fun R k => rfl
theorem ok_keep_ready [Fuel] : Ok 11 (SS_keep_ready (@keep_ready _)) := okF_of std (.cons ok_band_May (.cons ok_keep_errs (.cons ok_log_Dupes (.cons ok_club_Table (.cons ok_net_Next .nil))))) ⟨rfl, rfl, by kernel_rfl, rfl, rfl, rfl⟩ (sm_keep_ready I_keep_ready) (cuts0 (fun _ => rfl) (by kernel_rfl)) Tryz.func11 (by kernel_rfl) (by kernel_rfl)
abbrev T_z33z : Type 1 := List (List UInt8) → {R : Type} → (Int → Option R) → Option R
structure C_z33z where
 N : Nat
 z56z : T_z56z
def z33z_L4 (g : C_z33z) : Nat → List (List UInt8) → List (List UInt8) → Int → Int → {R : Type} → (Int → Option R) → Option R → Option R
 | 0, _, _, _, _, _, _, _ => none
 | n + 1, v2, v3, v4, v5, _, e0, e1 => (bif (decide (v5 < v4)) then (get_ v3 v5 fun x9 => (g.z56z x9 (fun r10 => (bif (!r10) then e0 3 else (bif (decide (v5 > 0)) then (get_ v2 (w64 (v5 - 1)) fun x11 => (bif (Op.bytesLess x9 x11 || x9 == x11) then e0 7 else z33z_L4 g n v2 v3 v4 (w64 (v5 + 1)) e0 e1)) else z33z_L4 g n v2 v3 v4 (w64 (v5 + 1)) e0 e1))))) else e1)
def z33z_ (g : C_z33z) (a1 : List (List UInt8)) {R : Type} (k0 : Int → Option R) : Option R :=
 (bif (decide ((a1.length : Int) > 100)) then k0 2 else (z33z_L4 g g.N a1 a1 (a1.length : Int) 0 (fun e12 => k0 e12) (k0 0)))
noncomputable def I_z33z [Fuel] : C_z33z := ⟨NN, @z56z _⟩
noncomputable def z33z [Fuel] : T_z33z := @z33z_ I_z33z
def SS_z33z (g : T_z33z) : Spec A := fun args => match args with | [.d (.sl 9 a1)] => fun k => g a1 (fun z0 => k (.d (.int .i64 z0)) [.undef]) | _ => fun _ => none
def sh_z33z_L4 : SSt := mkSh 30 0 [(0, .sl 9), (8, .sl 9), (9, .int .i64), (10, .int .i64)] []
def LP_z33z_L4 (g : C_z33z) (n : Nat) : LPT A := fun ps => match ps with | [.d (.sl 9 p1), .d (.sl 9 p2), .d (.int .i64 p3), .d (.int .i64 p4)] => fun K => z33z_L4 g n p1 p2 p3 p4 (fun z0 => K .ret (mkSt 30 0 [(2, .d (.int .i64 z0))] [])) (K (.exit 0) (mkSt 30 0 [] [])) | _ => fun _ => none
noncomputable def code_201 : Code := (Tryz.f201.body).getD .skip
noncomputable def E_z33z (g : C_z33z) : Env A := mkE [(216, SS_z56z g.z56z)] [] [(4, ⟨[0, 8, 9, 10], [], [], [], [], []⟩)] [(4, ⟨[2], [], [], [], [], []⟩)] [(4, pieceOf sh_z33z_L4 (LP_z33z_L4 g g.N))] [] [] [] [] []
theorem ct_z33z [Fuel] : NatTab (E_z33z I_z33z).C := ct_of (P := Tryz.prog) (T := T) (.cons ok_z56z .nil) (by kernel_rfl)
noncomputable def cb_z33z_L4 : Code := sub [1, 1, 0, 1, 0, 0] code_201
theorem s_z33z_L4 (g : C_z33z) (n : Nat) : StepOk (E_z33z g) g.N cb_z33z_L4 sh_z33z_L4 (LP_z33z_L4 g) n := by intro ps; unfold LP_z33z_L4; split; exact .inr fun R K => (by kernel_rfl); exact .inl fun R K => rfl
theorem lf_z33z_L4 [Fuel] : LoopFine (E_z33z I_z33z) NN cb_z33z_L4 := fine_loop sh_z33z_L4 (LP_z33z_L4 I_z33z) (by kernel_rfl) ct_z33z (cuts0 (fun _ => rfl) (by kernel_rfl)) (fun ps R K => by unfold LP_z33z_L4; split <;> (try unfold z33z_L4) <;> rfl) (s_z33z_L4 I_z33z)
theorem sm_z33z (g : C_z33z) : Same (SS_z33z (@z33z_ g)) (abody (E_z33z g) Tryz.f201 code_201 0 [] [.asis] g.N) := by intro args; unfold SS_z33z; split; exact .inr fun R k => (by kernel_rfl); exact .inl fun R k => rfl
theorem ok_z33z [Fuel] : Ok 201 (SS_z33z (@z33z _)) := okF_of std (.cons ok_z56z .nil) ⟨rfl, rfl, by kernel_rfl, rfl, rfl, rfl⟩ (sm_z33z I_z33z) (cutsL (fun _ => rfl) (.cons lf_z33z_L4 .nil) (by kernel_rfl)) Tryz.func201 (by kernel_rfl) (by kernel_rfl)
abbrev T_z39z : Type 1 := List G_Club → {R : Type} → (Int → Option R) → Option R
structure C_z39z where
 N : Nat
 kit_IsKey : T_kit_IsKey
 z33z : T_z33z
def z39z_L4 (g : C_z39z) : Nat → List G_Club → List G_Club → Int → Int → {R : Type} → (Int → Option R) → Option R → Option R
 | 0, _, _, _, _, _, _, _ => none
 | n + 1, v2, v3, v4, v5, _, e0, e1 => (bif (decide (v5 < v4)) then (get_ v3 v5 fun x11 => (g.kit_IsKey x11.f_Key (fun r12 => (bif (!r12) then e0 5 else (bif (decide (v5 > 0)) then (get_ v2 (w64 (v5 - 1)) fun x13 => (bif (Op.bytesLess x11.f_Key x13.f_Key || x11.f_Key == x13.f_Key) then e0 7 else (g.z33z x11.f_Squares (fun r14 => (bif (r14 != 0) then e0 r14 else z39z_L4 g n v2 v3 v4 (w64 (v5 + 1)) e0 e1))))) else (g.z33z x11.f_Squares (fun r15 => (bif (r15 != 0) then e0 r15 else z39z_L4 g n v2 v3 v4 (w64 (v5 + 1)) e0 e1)))))))) else e1)
def z39z_ (g : C_z39z) (a1 : List G_Club) {R : Type} (k0 : Int → Option R) : Option R :=
 (bif (decide ((a1.length : Int) > 200)) then k0 2 else (z39z_L4 g g.N a1 a1 (a1.length : Int) 0 (fun e16 => k0 e16) (k0 0)))
noncomputable def I_z39z [Fuel] : C_z39z := ⟨NN, @kit_IsKey _, @z33z _⟩
noncomputable def z39z [Fuel] : T_z39z := @z39z_ I_z39z
def SS_z39z (g : T_z39z) : Spec A := fun args => match args with | [.d (.sl 81 a1)] => fun k => g a1 (fun z0 => k (.d (.int .i64 z0)) [.undef]) | _ => fun _ => none
def sh_z39z_L4 : SSt := mkSh 40 1 [(0, .sl 81), (9, .sl 81), (10, .int .i64), (11, .int .i64)] []
def LP_z39z_L4 (g : C_z39z) (n : Nat) : LPT A := fun ps => match ps with | [.d (.sl 81 p1), .d (.sl 81 p2), .d (.int .i64 p3), .d (.int .i64 p4)] => fun K => z39z_L4 g n p1 p2 p3 p4 (fun z0 => K .ret (mkSt 40 1 [(2, .d (.int .i64 z0))] [])) (K (.exit 0) (mkSt 40 1 [] [])) | _ => fun _ => none
noncomputable def code_140 : Code := (Tryz.f140.body).getD .skip
noncomputable def E_z39z (g : C_z39z) : Env A := mkE [(49, SS_kit_IsKey g.kit_IsKey), (201, SS_z33z g.z33z)] [(4, [0])] [(4, ⟨[0, 9, 10, 11], [], [], [], [], []⟩)] [(4, ⟨[2], [], [], [], [], []⟩)] [(4, pieceOf sh_z39z_L4 (LP_z39z_L4 g g.N))] [] [] [] [] []
theorem ct_z39z [Fuel] : NatTab (E_z39z I_z39z).C := ct_of (P := Tryz.prog) (T := T) (.cons ok_kit_IsKey (.cons ok_z33z .nil)) (by kernel_rfl)
noncomputable def cb_z39z_L4 : Code := sub [1, 1, 0, 1, 0, 0] code_140
theorem s_z39z_L4 (g : C_z39z) (n : Nat) : StepOk (E_z39z g) g.N cb_z39z_L4 sh_z39z_L4 (LP_z39z_L4 g) n := by intro ps; unfold LP_z39z_L4; split; exact .inr fun R K => (by kernel_rfl); exact .inl fun R K => rfl
theorem lf_z39z_L4 [Fuel] : LoopFine (E_z39z I_z39z) NN cb_z39z_L4 := fine_loop sh_z39z_L4 (LP_z39z_L4 I_z39z) (by kernel_rfl) ct_z39z (cuts0 (fun _ => rfl) (by kernel_rfl)) (fun ps R K => by unfold LP_z39z_L4; split <;> (try unfold z39z_L4) <;> rfl) (s_z39z_L4 I_z39z)
theorem sm_z39z (g : C_z39z) : Same (SS_z39z (@z39z_ g)) (abody (E_z39z g) Tryz.f140 code_140 1 [] [.asis] g.N) := by intro args; unfold SS_z39z; split; exact .inr fun R k => (by kernel_rfl); exact .inl fun R k => rfl
theorem ok_z39z [Fuel] : Ok 140 (SS_z39z (@z39z _)) := okF_of std (.cons ok_kit_IsKey (.cons ok_z33z .nil)) ⟨rfl, rfl, by kernel_rfl, rfl, rfl, rfl⟩ (sm_z39z I_z39z) (cutsL (fun _ => rfl) (.cons lf_z39z_L4 .nil) (by kernel_rfl)) Tryz.func140 (by kernel_rfl) (by kernel_rfl)
abbrev T_z26z : Type 1 := G_Club → List UInt8 → {R : Type} → (Int → Option R) → Option R
structure C_z26z where
 N : Nat
 strings_Compare : T_strings_Compare
def z26z_ (g : C_z26z) (a1 : G_Club) (a2 : List UInt8) {R : Type} (k0 : Int → Option R) : Option R :=
 (g.strings_Compare a1.f_Key a2 (fun r3 => k0 r3))
noncomputable def I_z26z [Fuel] : C_z26z := ⟨NN, @strings_Compare _⟩
noncomputable def z26z [Fuel] : T_z26z := @z26z_ I_z26z
def SS_z26z (g : T_z26z) : Spec A := fun args => match args with | [.agg [.d (.str a1), .d (.sl 9 a2)], .d (.str a3)] => fun k => g ⟨a1, a2⟩ a3 (fun z0 => k (.d (.int .i64 z0)) [.undef, .undef]) | _ => fun _ => none
noncomputable def code_205 : Code := (Tryz.f205.body).getD .skip
noncomputable def E_z26z (g : C_z26z) : Env A := mkE [(56, SS_strings_Compare g.strings_Compare)] [(2, [0])] [] [] [] [] [] [] [] []
theorem sm_z26z (g : C_z26z) : Same (SS_z26z (@z26z_ g)) (abody (E_z26z g) Tryz.f205 code_205 1 [] [.asis] g.N) := by intro args; unfold SS_z26z; split; exact .inr fun R k => (by kernel_rfl); exact .inl fun R k => rfl
theorem ok_z26z [Fuel] : Ok 205 (SS_z26z (@z26z _)) := okF_of std (.cons ok_strings_Compare .nil) ⟨rfl, rfl, by kernel_rfl, rfl, rfl, rfl⟩ (sm_z26z I_z26z) (cuts0 (fun _ => rfl) (by kernel_rfl)) Tryz.func205 (by kernel_rfl) (by kernel_rfl)
abbrev T_z1z : Type 1 := List G_Club → List UInt8 → {R : Type} → (Int → Bool → Option R) → Option R
structure C_z1z where
 N : Nat
 z26z : T_z26z
def z1z_L3 (g : C_z1z) : Nat → List G_Club → List UInt8 → Int → Int → Int → {R : Type} → (List G_Club → List UInt8 → Int → Int → Option R) → Option R
 | 0, _, _, _, _, _, _, _ => none
 | n + 1, v3, v4, v5, v6, v7, _, e0 => (bif (decide (v6 < v7)) then (get_ v3 (w64 (Int.fdiv (IntKind.u64.wrap (w64 (v6 + v7))) (2 ^ (1 : Int).toNat))) fun x10 => (g.z26z x10 v4 (fun r11 => (bif (decide (r11 < 0)) then z1z_L3 g n v3 v4 v5 (w64 ((w64 (Int.fdiv (IntKind.u64.wrap (w64 (v6 + v7))) (2 ^ (1 : Int).toNat))) + 1)) v7 e0 else z1z_L3 g n v3 v4 v5 v6 (w64 (Int.fdiv (IntKind.u64.wrap (w64 (v6 + v7))) (2 ^ (1 : Int).toNat))) e0)))) else e0 v3 v4 v5 v6)
def z1z_ (g : C_z1z) (a1 : List G_Club) (a2 : List UInt8) {R : Type} (k0 : Int → Bool → Option R) : Option R :=
 (z1z_L3 g g.N a1 a2 (a1.length : Int) 0 (a1.length : Int) (fun e12 e13 e14 e15 => (bif (decide (e15 < e14)) then (get_ e12 e15 fun x16 => (g.z26z x16 e13 (fun r17 => k0 e15 (r17 == 0)))) else k0 e15 false)))
noncomputable def I_z1z [Fuel] : C_z1z := ⟨NN, @z26z _⟩
noncomputable def z1z [Fuel] : T_z1z := @z1z_ I_z1z
def SS_z1z (g : T_z1z) : Spec A := fun args => match args with | [.d (.sl 81 a1), .d (.str a2), .fn 205 []] => fun k => g a1 a2 (fun z0 z1 => k (.tup [.d (.int .i64 z0), .d (.bool z1)]) [.undef, .undef, .fn 205 []]) | _ => fun _ => none
def sh_z1z_L3 : SSt := mkSh 49 0 [(0, .sl 81), (1, .str), (2, .fn 205 []), (8, .int .i64), (9, .int .i64), (10, .int .i64)] []
def LP_z1z_L3 (g : C_z1z) (n : Nat) : LPT A := fun ps => match ps with | [.d (.sl 81 p1), .d (.str p2), .d (.int .i64 p3), .d (.int .i64 p4), .d (.int .i64 p5)] => fun K => z1z_L3 g n p1 p2 p3 p4 p5 (fun z0 z1 z2 z3 => K (.exit 0) (mkSt 49 0 [(0, .d (.sl 81 z0)), (1, .d (.str z1)), (2, .fn 205 []), (8, .d (.int .i64 z2)), (9, .d (.int .i64 z3))] [])) | _ => fun _ => none
noncomputable def code_204 : Code := (Tryz.f204.body).getD .skip
noncomputable def E_z1z (g : C_z1z) : Env A := mkE [(205, SS_z26z g.z26z)] [] [(3, ⟨[0, 1, 2, 8, 9, 10], [], [], [], [], []⟩)] [(3, ⟨[0, 1, 2, 8, 9], [], [], [], [], []⟩)] [(3, pieceOf sh_z1z_L3 (LP_z1z_L3 g g.N))] [] [] [] [] [2]
theorem ct_z1z [Fuel] : NatTab (E_z1z I_z1z).C := ct_of (P := Tryz.prog) (T := T) (.cons ok_z26z .nil) (by kernel_rfl)
noncomputable def cb_z1z_L3 : Code := sub [1, 1, 1, 0, 0, 0] code_204
theorem s_z1z_L3 (g : C_z1z) (n : Nat) : StepOk (E_z1z g) g.N cb_z1z_L3 sh_z1z_L3 (LP_z1z_L3 g) n := by intro ps; unfold LP_z1z_L3; split; exact .inr fun R K => (by kernel_rfl); exact .inl fun R K => rfl
theorem lf_z1z_L3 [Fuel] : LoopFine (E_z1z I_z1z) NN cb_z1z_L3 := fine_loop sh_z1z_L3 (LP_z1z_L3 I_z1z) (by kernel_rfl) ct_z1z (cuts0 (fun _ => rfl) (by kernel_rfl)) (fun ps R K => by unfold LP_z1z_L3; split <;> (try unfold z1z_L3) <;> rfl) (s_z1z_L3 I_z1z)
theorem sm_z1z (g : C_z1z) : Same (SS_z1z (@z1z_ g)) (abody (E_z1z g) Tryz.f204 code_204 0 [] [.asis, .asis] g.N) := by intro args; unfold SS_z1z; split; exact .inr fun R k => (by kernel_rfl); exact .inl fun R k => rfl
theorem ok_z1z [Fuel] : Ok 204 (SS_z1z (@z1z _)) := okF_of std (.cons ok_z26z .nil) ⟨rfl, rfl, by kernel_rfl, rfl, rfl, rfl⟩ (sm_z1z I_z1z) (cutsL (fun _ => rfl) (.cons lf_z1z_L3 .nil) (by kernel_rfl)) Tryz.func204 (by kernel_rfl) (by kernel_rfl)
abbrev T_z18z : Type 1 := List G_Club → List UInt8 → {R : Type} → (Int → Bool → Option R) → Option R
structure C_z18z where
 N : Nat
 z1z : T_z1z
def z18z_ (g : C_z18z) (a1 : List G_Club) (a2 : List UInt8) {R : Type} (k0 : Int → Bool → Option R) : Option R :=
 (g.z1z a1 a2 (fun r3 r4 => k0 r3 r4))
noncomputable def I_z18z [Fuel] : C_z18z := ⟨NN, @z1z _⟩
noncomputable def z18z [Fuel] : T_z18z := @z18z_ I_z18z
def SS_z18z (g : T_z18z) : Spec A := fun args => match args with | [.d (.sl 81 a1), .d (.str a2)] => fun k => g a1 a2 (fun z0 z1 => k (.tup [.d (.int .i64 z0), .d (.bool z1)]) [.undef, .undef]) | _ => fun _ => none
noncomputable def code_145 : Code := (Tryz.f145.body).getD .skip
noncomputable def E_z18z (g : C_z18z) : Env A := mkE [(204, SS_z1z g.z1z)] [] [] [] [] [] [] [] [] []
theorem sm_z18z (g : C_z18z) : Same (SS_z18z (@z18z_ g)) (abody (E_z18z g) Tryz.f145 code_145 0 [] [.asis, .asis] g.N) := by intro args; unfold SS_z18z; split; exact .inr fun R k => (by kernel_rfl); exact .inl fun R k => rfl
theorem ok_z18z [Fuel] : Ok 145 (SS_z18z (@z18z _)) := okF_of std (.cons ok_z1z .nil) ⟨rfl, rfl, by kernel_rfl, rfl, rfl, rfl⟩ (sm_z18z I_z18z) (cuts0 (fun _ => rfl) (by kernel_rfl)) Tryz.func145 (by kernel_rfl) (by kernel_rfl)
abbrev T_club_isDay : Type 1 := Int → {R : Type} → (Bool → Option R) → Option R
structure C_club_isDay where
 N : Nat
 z52z : T_z52z
def club_isDay_ (g : C_club_isDay) (a1 : Int) {R : Type} (k0 : Bool → Option R) : Option R :=
 (g.z52z a1 0 4000 (fun r2 => k0 (!r2)))
noncomputable def I_club_isDay [Fuel] : C_club_isDay := ⟨NN, @z52z _⟩
noncomputable def club_isDay [Fuel] : T_club_isDay := @club_isDay_ I_club_isDay
def SS_club_isDay (g : T_club_isDay) : Spec A := fun args => match args with | [.d (.int .i64 a1)] => fun k => g a1 (fun z0 => k (.d (.bool z0)) [.undef]) | _ => fun _ => none
noncomputable def code_91 : Code := (Tryz.f91.body).getD .skip
noncomputable def E_club_isDay (g : C_club_isDay) : Env A := mkE [(60, SS_z52z g.z52z)] [] [] [] [] [] [] [] [] []
theorem sm_club_isDay (g : C_club_isDay) : Same (SS_club_isDay (@club_isDay_ g)) (abody (E_club_isDay g) Tryz.f91 code_91 0 [] [.asis] g.N) := by intro args; unfold SS_club_isDay; split; exact .inr fun R k => (by kernel_rfl); exact .inl fun R k => rfl
theorem ok_club_isDay [Fuel] : Ok 91 (SS_club_isDay (@club_isDay _)) := okF_of std (.cons ok_z52z .nil) ⟨rfl, rfl, by kernel_rfl, rfl, rfl, rfl⟩ (sm_club_isDay I_club_isDay) (cuts0 (fun _ => rfl) (by kernel_rfl)) Tryz.func91 (by kernel_rfl) (by kernel_rfl)
abbrev T_z72z : Type 1 := List G_Club → List G_Member → Int → {R : Type} → (Int → Option R) → Option R
structure C_z72z where
 N : Nat
 strings_Compare : T_strings_Compare
 z34z : T_z34z
 club_isDay : T_club_isDay
 z35z : T_z35z
 z18z : T_z18z
 call_Parts : T_call_Parts
 z68z : T_z68z
def z72z_ (g : C_z72z) (a1 : List G_Club) (a2 : List G_Member) (a3 : Int) {R : Type} (k0 : Int → Option R) : Option R :=
 (get_ a2 a3 fun x4 => (g.call_Parts x4.f_Call (fun r5 r6 => (bif (!r6) then k0 3 else (bif (!(r5.f_Base == x4.f_Call)) then k0 3 else (g.z18z a1 x4.f_Club (fun r7 r8 => (bif (!(x4.f_Club == [])) then (bif (!r8) then k0 8 else (g.club_isDay x4.f_Day (fun r9 => (bif (!r9) then k0 1 else (g.z68z x4.f_Locator (fun r10 => (bif (!r10) then k0 3 else (bif (decide (a3 > 0)) then (get_ a2 (w64 (a3 - 1)) fun x11 => (get_ a2 (w64 (a3 - 1)) fun x12 => (g.strings_Compare x11.f_Call x4.f_Call (fun r13 => (g.z35z x12.f_Day x4.f_Day (fun r14 => (g.z34z [r13, r14] (fun r15 => (bif (decide (r15 ≥ 0)) then k0 7 else k0 0))))))))) else k0 0)))))))) else (g.club_isDay x4.f_Day (fun r16 => (bif (!r16) then k0 1 else (g.z68z x4.f_Locator (fun r17 => (bif (!r17) then k0 3 else (bif (decide (a3 > 0)) then (get_ a2 (w64 (a3 - 1)) fun x18 => (get_ a2 (w64 (a3 - 1)) fun x19 => (g.strings_Compare x18.f_Call x4.f_Call (fun r20 => (g.z35z x19.f_Day x4.f_Day (fun r21 => (g.z34z [r20, r21] (fun r22 => (bif (decide (r22 ≥ 0)) then k0 7 else k0 0))))))))) else k0 0)))))))))))))))
noncomputable def I_z72z [Fuel] : C_z72z := ⟨NN, @strings_Compare _, @z34z _, @club_isDay _, @z35z _, @z18z _, @call_Parts _, @z68z _⟩
noncomputable def z72z [Fuel] : T_z72z := @z72z_ I_z72z
def SS_z72z (g : T_z72z) : Spec A := fun args => match args with | [.d (.sl 81 a1), .d (.sl 85 a2), .d (.int .i64 a3)] => fun k => g a1 a2 a3 (fun z0 => k (.d (.int .i64 z0)) [.undef, .undef, .undef]) | _ => fun _ => none
noncomputable def code_141 : Code := (Tryz.f141.body).getD .skip
noncomputable def E_z72z (g : C_z72z) : Env A := mkE [(56, SS_strings_Compare g.strings_Compare), (77, SS_z34z g.z34z), (91, SS_club_isDay g.club_isDay), (105, SS_z35z g.z35z), (145, SS_z18z g.z18z), (148, SS_call_Parts g.call_Parts), (166, SS_z68z g.z68z)] [(7, [0]), (8, [1]), (77, [2])] [] [] [] [] [] [] [] []
theorem sm_z72z (g : C_z72z) : Same (SS_z72z (@z72z_ g)) (abody (E_z72z g) Tryz.f141 code_141 3 [] [.asis] g.N) := by intro args; unfold SS_z72z; split; exact .inr fun R k => (by kernel_rfl); exact .inl fun R k => rfl
theorem ok_z72z [Fuel] : Ok 141 (SS_z72z (@z72z _)) := okF_of std (.cons ok_strings_Compare (.cons ok_z34z (.cons ok_club_isDay (.cons ok_z35z (.cons ok_z18z (.cons ok_call_Parts (.cons ok_z68z .nil))))))) ⟨rfl, rfl, by kernel_rfl, rfl, rfl, rfl⟩ (sm_z72z I_z72z) (cuts0 (fun _ => rfl) (by kernel_rfl)) Tryz.func141 (by kernel_rfl) (by kernel_rfl)
abbrev T_z28z : Type 1 := List G_Club → List G_Member → {R : Type} → (Int → Option R) → Option R
structure C_z28z where
 N : Nat
 z39z : T_z39z
 z72z : T_z72z
def z28z_L7 (g : C_z28z) : Nat → List G_Club → List G_Member → Int → Int → {R : Type} → (Int → Option R) → Option R → Option R
 | 0, _, _, _, _, _, _, _ => none
 | n + 1, v4, v5, v6, v7, _, e0, e1 => (bif (decide (v7 < v6)) then (g.z72z v4 v5 v7 (fun r9 => (bif (r9 != 0) then e0 r9 else z28z_L7 g n v4 v5 v6 (w64 (v7 + 1)) e0 e1))) else e1)
def z28z_ (g : C_z28z) (a1 : List G_Club) (a2 : List G_Member) {R : Type} (k0 : Int → Option R) : Option R :=
 (g.z39z a1 (fun r3 => (bif (r3 != 0) then k0 r3 else (bif (decide ((a2.length : Int) > 1000)) then k0 2 else (z28z_L7 g g.N a1 a2 (a2.length : Int) 0 (fun e10 => k0 e10) (k0 0))))))
noncomputable def I_z28z [Fuel] : C_z28z := ⟨NN, @z39z _, @z72z _⟩
noncomputable def z28z [Fuel] : T_z28z := @z28z_ I_z28z
def SS_z28z (g : T_z28z) : Spec A := fun args => match args with | [.d (.sl 81 a1), .d (.sl 85 a2)] => fun k => g a1 a2 (fun z0 => k (.d (.int .i64 z0)) [.undef, .undef]) | _ => fun _ => none
def sh_z28z_L7 : SSt := mkSh 29 0 [(0, .sl 81), (1, .sl 85), (17, .int .i64), (18, .int .i64)] []
def LP_z28z_L7 (g : C_z28z) (n : Nat) : LPT A := fun ps => match ps with | [.d (.sl 81 p1), .d (.sl 85 p2), .d (.int .i64 p3), .d (.int .i64 p4)] => fun K => z28z_L7 g n p1 p2 p3 p4 (fun z0 => K .ret (mkSt 29 0 [(4, .d (.int .i64 z0))] [])) (K (.exit 0) (mkSt 29 0 [] [])) | _ => fun _ => none
noncomputable def code_90 : Code := (Tryz.f90.body).getD .skip
noncomputable def E_z28z (g : C_z28z) : Env A := mkE [(140, SS_z39z g.z39z), (141, SS_z72z g.z72z)] [] [(7, ⟨[0, 1, 17, 18], [], [], [], [], []⟩)] [(7, ⟨[4], [], [], [], [], []⟩)] [(7, pieceOf sh_z28z_L7 (LP_z28z_L7 g g.N))] [] [] [] [] []
theorem ct_z28z [Fuel] : NatTab (E_z28z I_z28z).C := ct_of (P := Tryz.prog) (T := T) (.cons ok_z39z (.cons ok_z72z .nil)) (by kernel_rfl)
noncomputable def cb_z28z_L7 : Code := sub [1, 1, 1, 0, 1, 0, 0] code_90
theorem s_z28z_L7 (g : C_z28z) (n : Nat) : StepOk (E_z28z g) g.N cb_z28z_L7 sh_z28z_L7 (LP_z28z_L7 g) n := by intro ps; unfold LP_z28z_L7; split; exact .inr fun R K => (by kernel_rfl); exact .inl fun R K => rfl
theorem lf_z28z_L7 [Fuel] : LoopFine (E_z28z I_z28z) NN cb_z28z_L7 := fine_loop sh_z28z_L7 (LP_z28z_L7 I_z28z) (by kernel_rfl) ct_z28z (cuts0 (fun _ => rfl) (by kernel_rfl)) (fun ps R K => by unfold LP_z28z_L7; split <;> (try unfold z28z_L7) <;> rfl) (s_z28z_L7 I_z28z)
theorem sm_z28z (g : C_z28z) : Same (SS_z28z (@z28z_ g)) (abody (E_z28z g) Tryz.f90 code_90 0 [] [.asis] g.N) := by intro args; unfold SS_z28z; split; exact .inr fun R k => (by kernel_rfl); exact .inl fun R k => rfl
theorem ok_z28z [Fuel] : Ok 90 (SS_z28z (@z28z _)) := okF_of std (.cons ok_z39z (.cons ok_z72z .nil)) ⟨rfl, rfl, by kernel_rfl, rfl, rfl, rfl⟩ (sm_z28z I_z28z) (cutsL (fun _ => rfl) (.cons lf_z28z_L7 .nil) (by kernel_rfl)) Tryz.func90 (by kernel_rfl) (by kernel_rfl)
abbrev T_club_last : Type 1 := List G_Member → Int → {R : Type} → (List (List UInt8 × G_Member) → Option R) → Option R
def club_last_L3 (g : Nat) : Nat → Int → List G_Member → Int → Int → List (List UInt8 × G_Member) → {R : Type} → (List (List UInt8 × G_Member) → Option R) → Option R
 | 0, _, _, _, _, _, _, _ => none
 | n + 1, v3, v4, v5, v6, v7, _, e0 => (bif (decide (v6 < v5)) then (get_ v4 v6 fun x9 => (bif (decide (x9.f_Day ≤ v3)) then club_last_L3 g n v3 v4 v5 (w64 (v6 + 1)) (mset_string_Member x9.f_Call x9 v7) e0 else club_last_L3 g n v3 v4 v5 (w64 (v6 + 1)) v7 e0)) else e0 v7)
def club_last_ (g : Nat) (a1 : List G_Member) (a2 : Int) {R : Type} (k0 : List (List UInt8 × G_Member) → Option R) : Option R :=
 (club_last_L3 g g a2 a1 (a1.length : Int) 0 [] (fun e10 => k0 e10))
noncomputable def club_last [Fuel] : T_club_last := @club_last_ NN
def SS_club_last (g : T_club_last) : Spec A := fun args => match args with | [.d (.sl 85 a1), .d (.int .i64 a2)] => fun k => g a1 a2 (fun z0 => k (.mp 9 85 z0) [.undef, .undef]) | _ => fun _ => none
def sh_club_last_L3 : SSt := mkSh 25 2 [(1, .int .i64), (5, .mp 0), (9, .sl 85), (10, .int .i64), (11, .int .i64)] [(0, .mp 9 85)]
def LP_club_last_L3 (g : Nat) (n : Nat) : LPT A := fun ps => match ps with | [.d (.int .i64 p1), .d (.sl 85 p2), .d (.int .i64 p3), .d (.int .i64 p4), .mp 9 85 p5] => fun K => club_last_L3 g n p1 p2 p3 p4 p5 (fun z0 => K (.exit 0) (mkSt 25 2 [(5, .mp 0)] [(0, some (.mp 9 85 z0))])) | _ => fun _ => none
noncomputable def code_92 : Code := (Tryz.f92.body).getD .skip
noncomputable def E_club_last (g : Nat) : Env A := mkE [] [(7, [1]), (8, [0])] [(3, ⟨[1, 5, 9, 10, 11], [], [0], [], [], []⟩)] [(3, ⟨[5], [], [0], [], [], []⟩)] [(3, pieceOf sh_club_last_L3 (LP_club_last_L3 g g))] [] [] [] [] []
theorem ct_club_last [Fuel] : NatTab (E_club_last NN).C := ct_of (P := Tryz.prog) (T := T) .nil (by kernel_rfl)
noncomputable def cb_club_last_L3 : Code := sub [1, 1, 0, 1, 0, 0] code_92
theorem s_club_last_L3 (g : Nat) (n : Nat) : StepOk (E_club_last g) g cb_club_last_L3 sh_club_last_L3 (LP_club_last_L3 g) n := by intro ps; unfold LP_club_last_L3; split; exact .inr fun R K => (by kernel_rfl); exact .inl fun R K => rfl
theorem lf_club_last_L3 [Fuel] : LoopFine (E_club_last NN) NN cb_club_last_L3 := fine_loop sh_club_last_L3 (LP_club_last_L3 NN) (by kernel_rfl) ct_club_last (cuts0 (fun _ => rfl) (by kernel_rfl)) (fun ps R K => by unfold LP_club_last_L3; split <;> (try unfold club_last_L3) <;> rfl) (s_club_last_L3 NN)
theorem sm_club_last (g : Nat) : Same (SS_club_last (@club_last_ g)) (abody (E_club_last g) Tryz.f92 code_92 2 [] [.asis] g) := by intro args; unfold SS_club_last; split; exact .inr fun R k => (by kernel_rfl); exact .inl fun R k => rfl
theorem ok_club_last [Fuel] : Ok 92 (SS_club_last (@club_last _)) := okF_of std .nil ⟨rfl, rfl, by kernel_rfl, rfl, rfl, rfl⟩ (sm_club_last NN) (cutsL (fun _ => rfl) (.cons lf_club_last_L3 .nil) (by kernel_rfl)) Tryz.func92 (by kernel_rfl) (by kernel_rfl)
abbrev T_z78z : Type 1 := List UInt8 → List UInt8 → {R : Type} → (Bool → Option R) → Option R
def z78z_ (g : Nat) (a1 a2 : List UInt8) {R : Type} (k0 : Bool → Option R) : Option R :=
 (bif (decide ((a1.length : Int) ≥ (a2.length : Int))) then (bif (decide (0 ≤ (a2.length : Int)) && decide ((a2.length : Int) ≤ (a1.length : Int))) then k0 ((a1.take ((a2.length : Int) : Int).toNat) == a2) else none) else k0 false)
noncomputable def z78z [Fuel] : T_z78z := @z78z_ NN
def SS_z78z (g : T_z78z) : Spec A := fun args => match args with | [.d (.str a1), .d (.str a2)] => fun k => g a1 a2 (fun z0 => k (.d (.bool z0)) [.undef, .undef]) | _ => fun _ => none
noncomputable def code_80 : Code := (Tryz.f80.body).getD .skip
noncomputable def E_z78z (g : Nat) : Env A := mkE [] [] [] [] [] [] [] [] [] []
theorem sm_z78z (g : Nat) : Same (SS_z78z (@z78z_ g)) (abody (E_z78z g) Tryz.f80 code_80 0 [] [.asis] g) := by intro args; unfold SS_z78z; split; exact .inr fun R k => (by kernel_rfl); exact .inl fun R k => rfl
theorem ok_z78z [Fuel] : Ok 80 (SS_z78z (@z78z _)) := okF_of std .nil ⟨rfl, rfl, by kernel_rfl, rfl, rfl, rfl⟩ (sm_z78z NN) (cuts0 (fun _ => rfl) (by kernel_rfl)) Tryz.func80 (by kernel_rfl) (by kernel_rfl)
end Go.Am
