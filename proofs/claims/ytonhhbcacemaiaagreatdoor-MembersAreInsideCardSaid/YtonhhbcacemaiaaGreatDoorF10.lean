/- The functions of the program as Lean functions, each shown to be what the code computes, part 10. No condition: lemmas for the claim. -/
import Derived.Test.YtonhhbcacemaiaaGreatDoorF0
import Derived.Test.YtonhhbcacemaiaaGreatDoorFSh
import Derived.Test.YtonhhbcacemaiaaGreatDoorF1
import Derived.Test.YtonhhbcacemaiaaGreatDoorF3
import Derived.Test.YtonhhbcacemaiaaGreatDoorF8
import Derived.Test.YtonhhbcacemaiaaGreatDoorF9
set_option linter.unusedVariables false
set_option maxRecDepth 100000
namespace Go.Am
open Go Go.Proofs
abbrev T_z3z : Type 1 := List (List UInt8) → G_Member → {R : Type} → (Int → G_Member → Option R) → Option R
structure C_z3z where
 N : Nat
 z2z : T_z2z
def z3z_L2 (g : C_z3z) : Nat → List (List UInt8) → Int → Int → G_Member → {R : Type} → (Int → G_Member → Option R) → (G_Member → Option R) → Option R
 | 0, _, _, _, _, _, _, _ => none
 | n + 1, v3, v4, v5, v6, _, e0, e1 => (bif (decide (v5 < v4)) then (get_ v3 v5 fun x10 => (g.z2z x10 v6 (fun r11 r12 => (bif r11 then e0 v5 r12 else z3z_L2 g n v3 v4 (w64 (v5 + 1)) r12 e0 e1)))) else e1 v6)
def z3z_ (g : C_z3z) (a1 : List (List UInt8)) (a2 : G_Member) {R : Type} (k0 : Int → G_Member → Option R) : Option R :=
 (z3z_L2 g g.N a1 (a1.length : Int) 0 a2 (fun e13 e14 => k0 e13 e14) (fun e15 => k0 (-1) e15))
noncomputable def I_z3z [Fuel] : C_z3z := ⟨NN, @z2z _⟩
noncomputable def z3z [Fuel] : T_z3z := @z3z_ I_z3z
def SS_z3z (g : T_z3z) : Spec A := fun args => match args with | [.d (.sl 9 a1), .fn 39 [.box [.d (.str a2), .d (.str a3), .d (.int .i64 a4), .d (.str a5)]]] => fun k => g a1 ⟨a2, a3, a4, a5⟩ (fun z0 z1 => k (.d (.int .i64 z0)) [.undef, .fn 39 [.box [.d (.str z1.f_Call), .d (.str z1.f_Club), .d (.int .i64 z1.f_Day), .d (.str z1.f_Locator)]]]) | _ => fun _ => none
def sh_z3z_L2 : SSt := mkSh 19 1 [(0, .sl 9), (1, .fn 39 [.ptr 0 0]), (7, .int .i64), (8, .int .i64)] [(0, .box [.str, .str, .int .i64, .str])]
def LP_z3z_L2 (g : C_z3z) (n : Nat) : LPT A := fun ps => match ps with | [.d (.sl 9 p1), .d (.int .i64 p2), .d (.int .i64 p3), .d (.str p4), .d (.str p5), .d (.int .i64 p6), .d (.str p7)] => fun K => z3z_L2 g n p1 p2 p3 ⟨p4, p5, p6, p7⟩ (fun z0 z1 => K .ret (mkSt 19 1 [(1, .fn 39 [.ptr 0 0]), (4, .d (.int .i64 z0))] [(0, some (.box [.d (.str z1.f_Call), .d (.str z1.f_Club), .d (.int .i64 z1.f_Day), .d (.str z1.f_Locator)]))])) (fun z0 => K (.exit 0) (mkSt 19 1 [(1, .fn 39 [.ptr 0 0])] [(0, some (.box [.d (.str z0.f_Call), .d (.str z0.f_Club), .d (.int .i64 z0.f_Day), .d (.str z0.f_Locator)]))])) | _ => fun _ => none
noncomputable def E_z3z (g : C_z3z) : Env A := mkE [(39, SS_z2z g.z2z)] [] [(2, ⟨[0, 1, 7, 8], [], [0], [], [], []⟩)] [(2, ⟨[1, 4], [], [0], [], [], []⟩)] [(2, pieceOf sh_z3z_L2 (LP_z3z_L2 g g.N))] [] [] [] [] [1]
theorem ct_z3z [Fuel] : NatTab (E_z3z I_z3z).C := ct_of (P := Tryz.prog) (T := T) (.cons ok_z2z .nil) (by kernel_rfl)
noncomputable def cb_z3z_L2 : Code := sub [1, 0, 1, 0, 0] code_102
theorem s_z3z_L2 (g : C_z3z) (n : Nat) : StepOk (E_z3z g) g.N cb_z3z_L2 sh_z3z_L2 (LP_z3z_L2 g) n := by intro ps; unfold LP_z3z_L2; split; exact .inr fun R K => (by kernel_rfl); exact .inl fun R K => rfl
theorem lf_z3z_L2 [Fuel] : LoopFine (E_z3z I_z3z) NN cb_z3z_L2 := fine_loop sh_z3z_L2 (LP_z3z_L2 I_z3z) (by kernel_rfl) ct_z3z (cuts0 (fun _ => rfl) (by kernel_rfl)) (fun ps R K => by unfold LP_z3z_L2; split <;> (try unfold z3z_L2) <;> rfl) (s_z3z_L2 I_z3z)
theorem sm_z3z (g : C_z3z) : Same (SS_z3z (@z3z_ g)) (abody (E_z3z g) Tryz.f102 code_102 1 [0] [.asis] g.N) := by intro args; unfold SS_z3z; split; exact .inr fun R k => (by kernel_rfl); exact .inl fun R k => rfl
theorem ok_z3z [Fuel] : Ok 102 (SS_z3z (@z3z _)) := okF_of std (.cons ok_z2z .nil) ⟨rfl, rfl, by kernel_rfl, rfl, rfl, rfl⟩ (sm_z3z I_z3z) (cutsL (fun _ => rfl) (.cons lf_z3z_L2 .nil) (by kernel_rfl)) Tryz.func102 (by kernel_rfl) (by kernel_rfl)
abbrev T_z17z : Type 1 := List (List UInt8) → G_Member → {R : Type} → (Bool → G_Member → Option R) → Option R
structure C_z17z where
 N : Nat
 z3z : T_z3z
def z17z_ (g : C_z17z) (a1 : List (List UInt8)) (a2 : G_Member) {R : Type} (k0 : Bool → G_Member → Option R) : Option R :=
 (g.z3z a1 a2 (fun r3 r4 => k0 (decide (r3 ≥ 0)) r4))
noncomputable def I_z17z [Fuel] : C_z17z := ⟨NN, @z3z _⟩
noncomputable def z17z [Fuel] : T_z17z := @z17z_ I_z17z
def SS_z17z (g : T_z17z) : Spec A := fun args => match args with | [.d (.sl 9 a1), .fn 39 [.box [.d (.str a2), .d (.str a3), .d (.int .i64 a4), .d (.str a5)]]] => fun k => g a1 ⟨a2, a3, a4, a5⟩ (fun z0 z1 => k (.d (.bool z0)) [.undef, .fn 39 [.box [.d (.str z1.f_Call), .d (.str z1.f_Club), .d (.int .i64 z1.f_Day), .d (.str z1.f_Locator)]]]) | _ => fun _ => none
noncomputable def E_z17z (g : C_z17z) : Env A := mkE [(102, SS_z3z g.z3z)] [] [] [] [] [] [] [] [(102, 0)] [1]
theorem sm_z17z (g : C_z17z) : Same (SS_z17z (@z17z_ g)) (abody (E_z17z g) Tryz.f38 code_38 1 [0] [.asis] g.N) := by intro args; unfold SS_z17z; split; exact .inr fun R k => (by kernel_rfl); exact .inl fun R k => rfl
theorem ok_z17z [Fuel] : Ok 38 (SS_z17z (@z17z _)) := okF_of std (.cons ok_z3z .nil) ⟨rfl, rfl, by kernel_rfl, rfl, rfl, rfl⟩ (sm_z17z I_z17z) (cuts0 (fun _ => rfl) (by kernel_rfl)) Tryz.func38 (by kernel_rfl) (by kernel_rfl)
abbrev T_z0z : Type 1 := G_Member → List UInt8 → List UInt8 → Int → List G_Club → Int → {R : Type} → (Bool → List UInt8 → List UInt8 → Int → List G_Club → Int → Option R) → Option R
structure C_z0z where
 N : Nat
 z17z : T_z17z
def z0z_ (g : C_z0z) (a1 : G_Member) (a2 a3 : List UInt8) (a4 : Int) (a5 : List G_Club) (a6 : Int) {R : Type} (k0 : Bool → List UInt8 → List UInt8 → Int → List G_Club → Int → Option R) : Option R :=
 (bif (a1.f_Call == a2) then (bif (a1.f_Club == a3) then (bif (decide (a1.f_Day ≤ a4)) then (get_ a5 a6 fun x7 => (g.z17z x7.f_Squares a1 (fun r8 r9 => k0 r8 a2 a3 a4 a5 a6))) else k0 false a2 a3 a4 a5 a6) else k0 false a2 a3 a4 a5 a6) else k0 false a2 a3 a4 a5 a6)
noncomputable def I_z0z [Fuel] : C_z0z := ⟨NN, @z17z _⟩
noncomputable def z0z [Fuel] : T_z0z := @z0z_ I_z0z
def SS_z0z (g : T_z0z) : Spec A := fun args => match args with | [.agg [.d (.str a1), .d (.str a2), .d (.int .i64 a3), .d (.str a4)], .box [.d (.str a5)], .box [.d (.str a6)], .box [.d (.int .i64 a7)], .box [.d (.sl 81 a8)], .box [.d (.int .i64 a9)]] => fun k => g ⟨a1, a2, a3, a4⟩ a5 a6 a7 a8 a9 (fun z0 z1 z2 z3 z4 z5 => k (.d (.bool z0)) [.undef, .box [.d (.str z1)], .box [.d (.str z2)], .box [.d (.int .i64 z3)], .box [.d (.sl 81 z4)], .box [.d (.int .i64 z5)]]) | _ => fun _ => none
noncomputable def code_37 : Code := (Tryz.f37.body).getD .skip
noncomputable def E_z0z (g : C_z0z) : Env A := mkE [(38, SS_z17z g.z17z)] [(6, [5])] [] [] [] [] [] [] [] [1, 2, 3, 4, 5]
theorem sm_z0z (g : C_z0z) : Same (SS_z0z (@z0z_ g)) (abody (E_z0z g) Tryz.f37 code_37 6 [0, 1, 2, 3, 4] [.asis] g.N) := by intro args; unfold SS_z0z; split; exact .inr fun R k => (by kernel_rfl); exact .inl fun R k => rfl
theorem ok_z0z [Fuel] : Ok 37 (SS_z0z (@z0z _)) := okF_of std (.cons ok_z17z .nil) ⟨rfl, rfl, by kernel_rfl, rfl, rfl, rfl⟩ (sm_z0z I_z0z) (cuts0 (fun _ => rfl) (by kernel_rfl)) Tryz.func37 (by kernel_rfl) (by kernel_rfl)
abbrev T_z5z : Type 1 := List G_Member → List UInt8 → List UInt8 → Int → List G_Club → Int → {R : Type} → (Int → List UInt8 → List UInt8 → Int → List G_Club → Int → Option R) → Option R
structure C_z5z where
 N : Nat
 z0z : T_z0z
def z5z_L2 (g : C_z5z) : Nat → List G_Member → Int → Int → List UInt8 → List UInt8 → Int → List G_Club → Int → {R : Type} → (Int → List UInt8 → List UInt8 → Int → List G_Club → Int → Option R) → (List UInt8 → List UInt8 → Int → List G_Club → Int → Option R) → Option R
 | 0, _, _, _, _, _, _, _, _, _, _, _ => none
 | n + 1, v7, v8, v9, v10, v11, v12, v13, v14, _, e0, e1 => (bif (decide (v9 < v8)) then (get_ v7 v9 fun x22 => (g.z0z x22 v10 v11 v12 v13 v14 (fun r23 r24 r25 r26 r27 r28 => (bif r23 then e0 v9 r24 r25 r26 r27 r28 else z5z_L2 g n v7 v8 (w64 (v9 + 1)) r24 r25 r26 r27 r28 e0 e1)))) else e1 v10 v11 v12 v13 v14)
def z5z_ (g : C_z5z) (a1 : List G_Member) (a2 a3 : List UInt8) (a4 : Int) (a5 : List G_Club) (a6 : Int) {R : Type} (k0 : Int → List UInt8 → List UInt8 → Int → List G_Club → Int → Option R) : Option R :=
 (z5z_L2 g g.N a1 (a1.length : Int) 0 a2 a3 a4 a5 a6 (fun e29 e30 e31 e32 e33 e34 => k0 e29 e30 e31 e32 e33 e34) (fun e35 e36 e37 e38 e39 => k0 (-1) e35 e36 e37 e38 e39))
noncomputable def I_z5z [Fuel] : C_z5z := ⟨NN, @z0z _⟩
noncomputable def z5z [Fuel] : T_z5z := @z5z_ I_z5z
def SS_z5z (g : T_z5z) : Spec A := fun args => match args with | [.d (.sl 85 a1), .fn 37 [.box [.d (.str a2)], .box [.d (.str a3)], .box [.d (.int .i64 a4)], .box [.d (.sl 81 a5)], .box [.d (.int .i64 a6)]]] => fun k => g a1 a2 a3 a4 a5 a6 (fun z0 z1 z2 z3 z4 z5 => k (.d (.int .i64 z0)) [.undef, .fn 37 [.box [.d (.str z1)], .box [.d (.str z2)], .box [.d (.int .i64 z3)], .box [.d (.sl 81 z4)], .box [.d (.int .i64 z5)]]]) | _ => fun _ => none
def sh_z5z_L2 : SSt := mkSh 19 5 [(0, .sl 85), (1, .fn 37 [.ptr 0 0, .ptr 1 0, .ptr 2 0, .ptr 3 0, .ptr 4 0]), (7, .int .i64), (8, .int .i64)] [(0, .box [.str]), (1, .box [.str]), (2, .box [.int .i64]), (3, .box [.sl 81]), (4, .box [.int .i64])]
def LP_z5z_L2 (g : C_z5z) (n : Nat) : LPT A := fun ps => match ps with | [.d (.sl 85 p1), .d (.int .i64 p2), .d (.int .i64 p3), .d (.str p4), .d (.str p5), .d (.int .i64 p6), .d (.sl 81 p7), .d (.int .i64 p8)] => fun K => z5z_L2 g n p1 p2 p3 p4 p5 p6 p7 p8 (fun z0 z1 z2 z3 z4 z5 => K .ret (mkSt 19 5 [(1, .fn 37 [.ptr 0 0, .ptr 1 0, .ptr 2 0, .ptr 3 0, .ptr 4 0]), (4, .d (.int .i64 z0))] [(0, some (.box [.d (.str z1)])), (1, some (.box [.d (.str z2)])), (2, some (.box [.d (.int .i64 z3)])), (3, some (.box [.d (.sl 81 z4)])), (4, some (.box [.d (.int .i64 z5)]))])) (fun z0 z1 z2 z3 z4 => K (.exit 0) (mkSt 19 5 [(1, .fn 37 [.ptr 0 0, .ptr 1 0, .ptr 2 0, .ptr 3 0, .ptr 4 0])] [(0, some (.box [.d (.str z0)])), (1, some (.box [.d (.str z1)])), (2, some (.box [.d (.int .i64 z2)])), (3, some (.box [.d (.sl 81 z3)])), (4, some (.box [.d (.int .i64 z4)]))])) | _ => fun _ => none
noncomputable def code_101 : Code := (Tryz.f101.body).getD .skip
noncomputable def E_z5z (g : C_z5z) : Env A := mkE [(37, SS_z0z g.z0z)] [] [(2, ⟨[0, 1, 7, 8], [], [0, 1, 2, 3, 4], [], [], []⟩)] [(2, ⟨[1, 4], [], [0, 1, 2, 3, 4], [], [], []⟩)] [(2, pieceOf sh_z5z_L2 (LP_z5z_L2 g g.N))] [] [] [] [] [1]
theorem ct_z5z [Fuel] : NatTab (E_z5z I_z5z).C := ct_of (P := Tryz.prog) (T := T) (.cons ok_z0z .nil) (by kernel_rfl)
noncomputable def cb_z5z_L2 : Code := sub [1, 0, 1, 0, 0] code_101
theorem s_z5z_L2 (g : C_z5z) (n : Nat) : StepOk (E_z5z g) g.N cb_z5z_L2 sh_z5z_L2 (LP_z5z_L2 g) n := by intro ps; unfold LP_z5z_L2; split; exact .inr fun R K => (by kernel_rfl); exact .inl fun R K => rfl
theorem lf_z5z_L2 [Fuel] : LoopFine (E_z5z I_z5z) NN cb_z5z_L2 := fine_loop sh_z5z_L2 (LP_z5z_L2 I_z5z) (by kernel_rfl) ct_z5z (cuts0 (fun _ => rfl) (by kernel_rfl)) (fun ps R K => by unfold LP_z5z_L2; split <;> (try unfold z5z_L2) <;> rfl) (s_z5z_L2 I_z5z)
theorem sm_z5z (g : C_z5z) : Same (SS_z5z (@z5z_ g)) (abody (E_z5z g) Tryz.f101 code_101 5 [0, 1, 2, 3, 4] [.asis] g.N) := by intro args; unfold SS_z5z; split; exact .inr fun R k => (by kernel_rfl); exact .inl fun R k => rfl
theorem ok_z5z [Fuel] : Ok 101 (SS_z5z (@z5z _)) := okF_of std (.cons ok_z0z .nil) ⟨rfl, rfl, by kernel_rfl, rfl, rfl, rfl⟩ (sm_z5z I_z5z) (cutsL (fun _ => rfl) (.cons lf_z5z_L2 .nil) (by kernel_rfl)) Tryz.func101 (by kernel_rfl) (by kernel_rfl)
abbrev T_z21z : Type 1 := List G_Member → List UInt8 → List UInt8 → Int → List G_Club → Int → {R : Type} → (Bool → List UInt8 → List UInt8 → Int → List G_Club → Int → Option R) → Option R
structure C_z21z where
 N : Nat
 z5z : T_z5z
def z21z_ (g : C_z21z) (a1 : List G_Member) (a2 a3 : List UInt8) (a4 : Int) (a5 : List G_Club) (a6 : Int) {R : Type} (k0 : Bool → List UInt8 → List UInt8 → Int → List G_Club → Int → Option R) : Option R :=
 (g.z5z a1 a2 a3 a4 a5 a6 (fun r7 r8 r9 r10 r11 r12 => k0 (decide (r7 ≥ 0)) r8 r9 r10 r11 r12))
noncomputable def I_z21z [Fuel] : C_z21z := ⟨NN, @z5z _⟩
noncomputable def z21z [Fuel] : T_z21z := @z21z_ I_z21z
def SS_z21z (g : T_z21z) : Spec A := fun args => match args with | [.d (.sl 85 a1), .fn 37 [.box [.d (.str a2)], .box [.d (.str a3)], .box [.d (.int .i64 a4)], .box [.d (.sl 81 a5)], .box [.d (.int .i64 a6)]]] => fun k => g a1 a2 a3 a4 a5 a6 (fun z0 z1 z2 z3 z4 z5 => k (.d (.bool z0)) [.undef, .fn 37 [.box [.d (.str z1)], .box [.d (.str z2)], .box [.d (.int .i64 z3)], .box [.d (.sl 81 z4)], .box [.d (.int .i64 z5)]]]) | _ => fun _ => none
noncomputable def code_36 : Code := (Tryz.f36.body).getD .skip
noncomputable def E_z21z (g : C_z21z) : Env A := mkE [(101, SS_z5z g.z5z)] [] [] [] [] [] [] [] [(101, 0)] [1]
theorem sm_z21z (g : C_z21z) : Same (SS_z21z (@z21z_ g)) (abody (E_z21z g) Tryz.f36 code_36 5 [0, 1, 2, 3, 4] [.asis] g.N) := by intro args; unfold SS_z21z; split; exact .inr fun R k => (by kernel_rfl); exact .inl fun R k => rfl
theorem ok_z21z [Fuel] : Ok 36 (SS_z21z (@z21z _)) := okF_of std (.cons ok_z5z .nil) ⟨rfl, rfl, by kernel_rfl, rfl, rfl, rfl⟩ (sm_z21z I_z21z) (cuts0 (fun _ => rfl) (by kernel_rfl)) Tryz.func36 (by kernel_rfl) (by kernel_rfl)
abbrev T_keep_MembersAreInside : Type 1 := List Int → {R : Type} → (Bool → Option R) → Option R
structure C_keep_MembersAreInside where
 N : Nat
 z60z : T_z60z
 keep_ready : T_keep_ready
 z16z : T_z16z
 z19z : T_z19z
 z6z : T_z6z
 z48z : T_z48z
 z23z : T_z23z
 club_Of : T_club_Of
 z58z : T_z58z
 z4z : T_z4z
 z21z : T_z21z
def keep_MembersAreInside_L10 (g : C_keep_MembersAreInside) : Nat → List G_Member → Int → Int → List G_Club → Int → List (List UInt8) → List (List UInt8) → {R : Type} → (Bool → Option R) → Option R → Option R
 | 0, _, _, _, _, _, _, _, _, _, _ => none
 | n + 1, v13, v14, v15, v16, v17, v18, v19, _, e0, e1 => (bif (decide (v15 < v14)) then (inr v19 v15 (at_ v19 v15 fun x40 => (bif (strOk x40 [47, 112]) then (g.club_Of v16 v13 (x40 ++ [47, 112]) v17 (fun r41 r42 => (bif (r42 != 0) then e0 false else (bif (!(r41 == [])) then (g.z58z v18 x40 (fun r43 => (bif r43 then e0 false else (g.z4z v16 r41 (fun r44 r45 => (bif (!(r45 == [])) then (bif (decide (r44 < 0)) then e0 false else (g.z21z v13 x40 r45 v17 v16 r44 (fun r46 r47 r48 r49 r50 r51 => (bif (!r46) then e0 false else keep_MembersAreInside_L10 g n v13 v14 (w64 (v15 + 1)) r50 r49 v18 v19 e0 e1)))) else keep_MembersAreInside_L10 g n v13 v14 (w64 (v15 + 1)) v16 v17 v18 v19 e0 e1)))))) else (g.z4z v16 r41 (fun r52 r53 => (bif (!(r53 == [])) then (bif (decide (r52 < 0)) then e0 false else (g.z21z v13 x40 r53 v17 v16 r52 (fun r54 r55 r56 r57 r58 r59 => (bif (!r54) then e0 false else keep_MembersAreInside_L10 g n v13 v14 (w64 (v15 + 1)) r58 r57 v18 v19 e0 e1)))) else keep_MembersAreInside_L10 g n v13 v14 (w64 (v15 + 1)) v16 v17 v18 v19 e0 e1))))))) else none))) else e1)
def keep_MembersAreInside_ (g : C_keep_MembersAreInside) (a1 : List Int) {R : Type} (k0 : Bool → Option R) : Option R :=
 (g.z16z (⟨a1, 0⟩ : G_Stream) (fun r2 r3 => (g.z19z r3 r2 (fun r4 r5 => (g.z60z r5 0 12 (fun r6 r7 => (g.z6z r2 r4 (fun r8 => (bif (r8 != 0) then (g.keep_ready (fun r9 => k0 r9)) else (g.z48z r2 r4 r6 (fun r10 r11 => (bif (r11 != 0) then k0 false else (g.z23z r10 (fun r12 => (bif (!r12) then k0 false else (keep_MembersAreInside_L10 g g.N r4 ([[107, 49, 97, 98], [111, 104, 50, 97, 98, 99], [111, 104, 50, 97, 98, 100], [119, 49, 97, 119]].length : Int) 0 r2 r6 r10 [[107, 49, 97, 98], [111, 104, 50, 97, 98, 99], [111, 104, 50, 97, 98, 100], [119, 49, 97, 119]] (fun e60 => k0 e60) (g.keep_ready (fun r61 => k0 r61))))))))))))))))))
noncomputable def I_keep_MembersAreInside [Fuel] : C_keep_MembersAreInside := ⟨NN, @z60z _, @keep_ready _, @z16z _, @z19z _, @z6z _, @z48z _, @z23z _, @club_Of _, @z58z _, @z4z _, @z21z _⟩
noncomputable def keep_MembersAreInside [Fuel] : T_keep_MembersAreInside := @keep_MembersAreInside_ I_keep_MembersAreInside
def SS_keep_MembersAreInside (g : T_keep_MembersAreInside) : Spec A := fun args => match args with | [.d (.sl 3 a1)] => fun k => g a1 (fun z0 => k (.d (.bool z0)) [.undef]) | _ => fun _ => none
def sh_keep_MembersAreInside_L10 : SSt := mkSh 86 10 [(4, .ptr 2 0), (5, .sl 85), (6, .ptr 4 0), (7, .own 9 5), (43, .own 9 6), (44, .int .i64), (45, .int .i64)] [(2, .box [.sl 81]), (4, .box [.int .i64]), (5, .row 9), (6, .row 9)]
def LP_keep_MembersAreInside_L10 (g : C_keep_MembersAreInside) (n : Nat) : LPT A := fun ps => match ps with | [.d (.sl 85 p1), .d (.int .i64 p2), .d (.int .i64 p3), .d (.sl 81 p4), .d (.int .i64 p5), .d (.sl 9 p6), .d (.sl 9 p7)] => fun K => keep_MembersAreInside_L10 g n p1 p2 p3 p4 p5 p6 p7 (fun z0 => K .ret (mkSt 86 10 [(2, .d (.bool z0))] [])) (K (.exit 0) (mkSt 86 10 [] [])) | _ => fun _ => none
noncomputable def code_6 : Code := (Tryz.f6.body).getD .skip
noncomputable def E_keep_MembersAreInside (g : C_keep_MembersAreInside) : Env A := mkE [(8, SS_z60z g.z60z), (11, SS_keep_ready g.keep_ready), (27, SS_z16z g.z16z), (28, SS_z19z g.z19z), (29, SS_z6z g.z6z), (30, SS_z48z g.z48z), (31, SS_z23z g.z23z), (32, SS_club_Of g.club_Of), (33, SS_z58z g.z58z), (34, SS_z4z g.z4z), (36, SS_z21z g.z21z)] [(4, [2]), (6, [4]), (10, [7]), (11, [8]), (13, [9]), (16, [0]), (18, [1]), (21, [3]), (33, [5]), (43, [6])] [(10, ⟨[4, 5, 6, 7, 43, 44, 45], [], [2, 4, 5, 6], [], [(2, 0)], [5]⟩)] [(10, ⟨[2], [], [], [], [], []⟩)] [(10, pieceOf sh_keep_MembersAreInside_L10 (LP_keep_MembersAreInside_L10 g g.N))] [] [] [] [] []
theorem ct_keep_MembersAreInside [Fuel] : NatTab (E_keep_MembersAreInside I_keep_MembersAreInside).C := ct_of (P := Tryz.prog) (T := T) (.cons ok_z60z (.cons ok_keep_ready (.cons ok_z16z (.cons ok_z19z (.cons ok_z6z (.cons ok_z48z (.cons ok_z23z (.cons ok_club_Of (.cons ok_z58z (.cons ok_z4z (.cons ok_z21z .nil))))))))))) (by kernel_rfl)
noncomputable def cb_keep_MembersAreInside_L10 : Code := sub [1, 1, 1, 1, 1, 1, 1, 0, 1, 0, 0] code_6
theorem s_keep_MembersAreInside_L10 (g : C_keep_MembersAreInside) (n : Nat) : StepOk (E_keep_MembersAreInside g) g.N cb_keep_MembersAreInside_L10 sh_keep_MembersAreInside_L10 (LP_keep_MembersAreInside_L10 g) n := by intro ps; unfold LP_keep_MembersAreInside_L10; split; exact .inr fun R K => (by kernel_rfl); exact .inl fun R K => rfl
theorem lf_keep_MembersAreInside_L10 [Fuel] : LoopFine (E_keep_MembersAreInside I_keep_MembersAreInside) NN cb_keep_MembersAreInside_L10 := fine_loop sh_keep_MembersAreInside_L10 (LP_keep_MembersAreInside_L10 I_keep_MembersAreInside) (by kernel_rfl) ct_keep_MembersAreInside (cuts0 (fun _ => rfl) (by kernel_rfl)) (fun ps R K => by unfold LP_keep_MembersAreInside_L10; split <;> (try unfold keep_MembersAreInside_L10) <;> rfl) (s_keep_MembersAreInside_L10 I_keep_MembersAreInside)
theorem sm_keep_MembersAreInside (g : C_keep_MembersAreInside) : Same (SS_keep_MembersAreInside (@keep_MembersAreInside_ g)) (abody (E_keep_MembersAreInside g) Tryz.f6 code_6 10 [] [.asis] g.N) := by intro args; unfold SS_keep_MembersAreInside; split; exact .inr fun R k => (by kernel_rfl); exact .inl fun R k => rfl
theorem ok_keep_MembersAreInside [Fuel] : Ok 6 (SS_keep_MembersAreInside (@keep_MembersAreInside _)) := okF_of std (.cons ok_z60z (.cons ok_keep_ready (.cons ok_z16z (.cons ok_z19z (.cons ok_z6z (.cons ok_z48z (.cons ok_z23z (.cons ok_club_Of (.cons ok_z58z (.cons ok_z4z (.cons ok_z21z .nil))))))))))) ⟨rfl, rfl, by kernel_rfl, rfl, rfl, rfl⟩ (sm_keep_MembersAreInside I_keep_MembersAreInside) (cutsL (fun _ => rfl) (.cons lf_keep_MembersAreInside_L10 .nil) (by kernel_rfl)) Tryz.func6 (by kernel_rfl) (by kernel_rfl)
end Go.Am
