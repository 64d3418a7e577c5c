/- The functions of the program as Lean functions, each shown to be what the code computes, part 9. No condition: lemmas for the claim. -/
import Derived.Test.YtonhhbcacemaiaaGreatDoorF0
import Derived.Test.YtonhhbcacemaiaaGreatDoorFSh
import Derived.Test.YtonhhbcacemaiaaGreatDoorF3
import Derived.Test.YtonhhbcacemaiaaGreatDoorF4
import Derived.Test.YtonhhbcacemaiaaGreatDoorF8
set_option linter.unusedVariables false
set_option maxRecDepth 100000
namespace Go.Am
open Go Go.Proofs
abbrev T_z62z : Type 1 := List UInt8 → List UInt8 → {R : Type} → (Bool → Option R) → Option R
structure C_z62z where
 N : Nat
 z78z : T_z78z
def z62z_ (g : C_z62z) (a1 a2 : List UInt8) {R : Type} (k0 : Bool → Option R) : Option R :=
 (g.z78z a1 a2 (fun r3 => k0 r3))
noncomputable def I_z62z [Fuel] : C_z62z := ⟨NN, @z78z _⟩
noncomputable def z62z [Fuel] : T_z62z := @z62z_ I_z62z
def SS_z62z (g : T_z62z) : Spec A := fun args => match args with | [.d (.str a1), .d (.str a2)] => fun k => g a1 a2 (fun z0 => k (.d (.bool z0)) [.undef, .undef]) | _ => fun _ => none
noncomputable def code_23 : Code := (Tryz.f23.body).getD .skip
noncomputable def E_z62z (g : C_z62z) : Env A := mkE [(80, SS_z78z g.z78z)] [] [] [] [] [] [] [] [] []
theorem sm_z62z (g : C_z62z) : Same (SS_z62z (@z62z_ g)) (abody (E_z62z g) Tryz.f23 code_23 0 [] [.asis] g.N) := by intro args; unfold SS_z62z; split; exact .inr fun R k => (by kernel_rfl); exact .inl fun R k => rfl
theorem ok_z62z [Fuel] : Ok 23 (SS_z62z (@z62z _)) := okF_of std (.cons ok_z78z .nil) ⟨rfl, rfl, by kernel_rfl, rfl, rfl, rfl⟩ (sm_z62z I_z62z) (cuts0 (fun _ => rfl) (by kernel_rfl)) Tryz.func23 (by kernel_rfl) (by kernel_rfl)
abbrev T_z13z : Type 1 := List UInt8 → G_Member → {R : Type} → (Bool → G_Member → Option R) → Option R
structure C_z13z where
 N : Nat
 z62z : T_z62z
def z13z_ (g : C_z13z) (a1 : List UInt8) (a2 : G_Member) {R : Type} (k0 : Bool → G_Member → Option R) : Option R :=
 (g.z62z a2.f_Locator a1 (fun r3 => k0 r3 a2))
noncomputable def I_z13z [Fuel] : C_z13z := ⟨NN, @z62z _⟩
noncomputable def z13z [Fuel] : T_z13z := @z13z_ I_z13z
def SS_z13z (g : T_z13z) : Spec A := fun args => match args with | [.d (.str a1), .box [.d (.str a2), .d (.str a3), .d (.int .i64 a4), .d (.str a5)]] => fun k => g a1 ⟨a2, a3, a4, a5⟩ (fun z0 z1 => k (.d (.bool z0)) [.undef, .box [.d (.str z1.f_Call), .d (.str z1.f_Club), .d (.int .i64 z1.f_Day), .d (.str z1.f_Locator)]]) | _ => fun _ => none
noncomputable def code_146 : Code := (Tryz.f146.body).getD .skip
noncomputable def E_z13z (g : C_z13z) : Env A := mkE [(23, SS_z62z g.z62z)] [] [] [] [] [] [] [] [] [1]
theorem sm_z13z (g : C_z13z) : Same (SS_z13z (@z13z_ g)) (abody (E_z13z g) Tryz.f146 code_146 1 [0] [.asis] g.N) := by intro args; unfold SS_z13z; split; exact .inr fun R k => (by kernel_rfl); exact .inl fun R k => rfl
theorem ok_z13z [Fuel] : Ok 146 (SS_z13z (@z13z _)) := okF_of std (.cons ok_z62z .nil) ⟨rfl, rfl, by kernel_rfl, rfl, rfl, rfl⟩ (sm_z13z I_z13z) (cuts0 (fun _ => rfl) (by kernel_rfl)) Tryz.func146 (by kernel_rfl) (by kernel_rfl)
abbrev T_z7z : Type 1 := List (List UInt8) → G_Member → {R : Type} → (Int → G_Member → Option R) → Option R
structure C_z7z where
 N : Nat
 z13z : T_z13z
def z7z_L2 (g : C_z7z) : Nat → List (List UInt8) → Int → Int → G_Member → {R : Type} → (Int → G_Member → Option R) → (G_Member → Option R) → Option R
 | 0, _, _, _, _, _, _, _ => none
 | n + 1, v3, v4, v5, v6, _, e0, e1 => (bif (decide (v5 < v4)) then (get_ v3 v5 fun x10 => (g.z13z x10 v6 (fun r11 r12 => (bif r11 then e0 v5 r12 else z7z_L2 g n v3 v4 (w64 (v5 + 1)) r12 e0 e1)))) else e1 v6)
def z7z_ (g : C_z7z) (a1 : List (List UInt8)) (a2 : G_Member) {R : Type} (k0 : Int → G_Member → Option R) : Option R :=
 (z7z_L2 g g.N a1 (a1.length : Int) 0 a2 (fun e13 e14 => k0 e13 e14) (fun e15 => k0 (-1) e15))
noncomputable def I_z7z [Fuel] : C_z7z := ⟨NN, @z13z _⟩
noncomputable def z7z [Fuel] : T_z7z := @z7z_ I_z7z
def SS_z7z (g : T_z7z) : Spec A := fun args => match args with | [.d (.sl 9 a1), .fn 146 [.box [.d (.str a2), .d (.str a3), .d (.int .i64 a4), .d (.str a5)]]] => fun k => g a1 ⟨a2, a3, a4, a5⟩ (fun z0 z1 => k (.d (.int .i64 z0)) [.undef, .fn 146 [.box [.d (.str z1.f_Call), .d (.str z1.f_Club), .d (.int .i64 z1.f_Day), .d (.str z1.f_Locator)]]]) | _ => fun _ => none
def sh_z7z_L2 : SSt := mkSh 19 1 [(0, .sl 9), (1, .fn 146 [.ptr 0 0]), (7, .int .i64), (8, .int .i64)] [(0, .box [.str, .str, .int .i64, .str])]
def LP_z7z_L2 (g : C_z7z) (n : Nat) : LPT A := fun ps => match ps with | [.d (.sl 9 p1), .d (.int .i64 p2), .d (.int .i64 p3), .d (.str p4), .d (.str p5), .d (.int .i64 p6), .d (.str p7)] => fun K => z7z_L2 g n p1 p2 p3 ⟨p4, p5, p6, p7⟩ (fun z0 z1 => K .ret (mkSt 19 1 [(1, .fn 146 [.ptr 0 0]), (4, .d (.int .i64 z0))] [(0, some (.box [.d (.str z1.f_Call), .d (.str z1.f_Club), .d (.int .i64 z1.f_Day), .d (.str z1.f_Locator)]))])) (fun z0 => K (.exit 0) (mkSt 19 1 [(1, .fn 146 [.ptr 0 0])] [(0, some (.box [.d (.str z0.f_Call), .d (.str z0.f_Club), .d (.int .i64 z0.f_Day), .d (.str z0.f_Locator)]))])) | _ => fun _ => none
noncomputable def code_102 : Code := (Tryz.f102.body).getD .skip
noncomputable def E_z7z (g : C_z7z) : Env A := mkE [(146, SS_z13z g.z13z)] [] [(2, ⟨[0, 1, 7, 8], [], [0], [], [], []⟩)] [(2, ⟨[1, 4], [], [0], [], [], []⟩)] [(2, pieceOf sh_z7z_L2 (LP_z7z_L2 g g.N))] [] [] [] [] [1]
theorem ct_z7z [Fuel] : NatTab (E_z7z I_z7z).C := ct_of (P := Tryz.prog) (T := T) (.cons ok_z13z .nil) (by kernel_rfl)
noncomputable def cb_z7z_L2 : Code := sub [1, 0, 1, 0, 0] code_102
theorem s_z7z_L2 (g : C_z7z) (n : Nat) : StepOk (E_z7z g) g.N cb_z7z_L2 sh_z7z_L2 (LP_z7z_L2 g) n := by intro ps; unfold LP_z7z_L2; split; exact .inr fun R K => (by kernel_rfl); exact .inl fun R K => rfl
theorem lf_z7z_L2 [Fuel] : LoopFine (E_z7z I_z7z) NN cb_z7z_L2 := fine_loop sh_z7z_L2 (LP_z7z_L2 I_z7z) (by kernel_rfl) ct_z7z (cuts0 (fun _ => rfl) (by kernel_rfl)) (fun ps R K => by unfold LP_z7z_L2; split <;> (try unfold z7z_L2) <;> rfl) (s_z7z_L2 I_z7z)
theorem sm_z7z (g : C_z7z) : Same (SS_z7z (@z7z_ g)) (abody (E_z7z g) Tryz.f102 code_102 1 [0] [.asis] g.N) := by intro args; unfold SS_z7z; split; exact .inr fun R k => (by kernel_rfl); exact .inl fun R k => rfl
theorem ok_z7z [Fuel] : Ok 102 (SS_z7z (@z7z _)) := okF_of std (.cons ok_z13z .nil) ⟨rfl, rfl, by kernel_rfl, rfl, rfl, rfl⟩ (sm_z7z I_z7z) (cutsL (fun _ => rfl) (.cons lf_z7z_L2 .nil) (by kernel_rfl)) Tryz.func102 (by kernel_rfl) (by kernel_rfl)
abbrev T_z31z : Type 1 := List (List UInt8) → G_Member → {R : Type} → (Bool → G_Member → Option R) → Option R
structure C_z31z where
 N : Nat
 z7z : T_z7z
def z31z_ (g : C_z31z) (a1 : List (List UInt8)) (a2 : G_Member) {R : Type} (k0 : Bool → G_Member → Option R) : Option R :=
 (g.z7z a1 a2 (fun r3 r4 => k0 (decide (r3 ≥ 0)) r4))
noncomputable def I_z31z [Fuel] : C_z31z := ⟨NN, @z7z _⟩
noncomputable def z31z [Fuel] : T_z31z := @z31z_ I_z31z
def SS_z31z (g : T_z31z) : Spec A := fun args => match args with | [.d (.sl 9 a1), .fn 146 [.box [.d (.str a2), .d (.str a3), .d (.int .i64 a4), .d (.str a5)]]] => fun k => g a1 ⟨a2, a3, a4, a5⟩ (fun z0 z1 => k (.d (.bool z0)) [.undef, .fn 146 [.box [.d (.str z1.f_Call), .d (.str z1.f_Club), .d (.int .i64 z1.f_Day), .d (.str z1.f_Locator)]]]) | _ => fun _ => none
noncomputable def code_38 : Code := (Tryz.f38.body).getD .skip
noncomputable def E_z31z (g : C_z31z) : Env A := mkE [(102, SS_z7z g.z7z)] [] [] [] [] [] [] [] [(102, 0)] [1]
theorem sm_z31z (g : C_z31z) : Same (SS_z31z (@z31z_ g)) (abody (E_z31z g) Tryz.f38 code_38 1 [0] [.asis] g.N) := by intro args; unfold SS_z31z; split; exact .inr fun R k => (by kernel_rfl); exact .inl fun R k => rfl
theorem ok_z31z [Fuel] : Ok 38 (SS_z31z (@z31z _)) := okF_of std (.cons ok_z7z .nil) ⟨rfl, rfl, by kernel_rfl, rfl, rfl, rfl⟩ (sm_z31z I_z31z) (cuts0 (fun _ => rfl) (by kernel_rfl)) Tryz.func38 (by kernel_rfl) (by kernel_rfl)
abbrev T_z9z : Type 1 := List G_Club → G_Member → {R : Type} → (Bool → Option R) → Option R
structure C_z9z where
 N : Nat
 z31z : T_z31z
 z18z : T_z18z
def z9z_ (g : C_z9z) (a1 : List G_Club) (a2 : G_Member) {R : Type} (k0 : Bool → Option R) : Option R :=
 (g.z18z a1 a2.f_Club (fun r3 r4 => (bif r4 then (get_ a1 r3 fun x5 => (g.z31z x5.f_Squares a2 (fun r6 r7 => k0 r6))) else k0 false)))
noncomputable def I_z9z [Fuel] : C_z9z := ⟨NN, @z31z _, @z18z _⟩
noncomputable def z9z [Fuel] : T_z9z := @z9z_ I_z9z
def SS_z9z (g : T_z9z) : Spec A := fun args => match args with | [.d (.sl 81 a1), .agg [.d (.str a2), .d (.str a3), .d (.int .i64 a4), .d (.str a5)]] => fun k => g a1 ⟨a2, a3, a4, a5⟩ (fun z0 => k (.d (.bool z0)) [.undef, .undef]) | _ => fun _ => none
noncomputable def code_95 : Code := (Tryz.f95.body).getD .skip
noncomputable def E_z9z (g : C_z9z) : Env A := mkE [(38, SS_z31z g.z31z), (145, SS_z18z g.z18z)] [(3, [0])] [] [] [] [] [] [] [] []
theorem sm_z9z (g : C_z9z) : Same (SS_z9z (@z9z_ g)) (abody (E_z9z g) Tryz.f95 code_95 1 [] [.asis] g.N) := by intro args; unfold SS_z9z; split; exact .inr fun R k => (by kernel_rfl); exact .inl fun R k => rfl
theorem ok_z9z [Fuel] : Ok 95 (SS_z9z (@z9z _)) := okF_of std (.cons ok_z31z (.cons ok_z18z .nil)) ⟨rfl, rfl, by kernel_rfl, rfl, rfl, rfl⟩ (sm_z9z I_z9z) (cuts0 (fun _ => rfl) (by kernel_rfl)) Tryz.func95 (by kernel_rfl) (by kernel_rfl)
abbrev T_z48z : Type 1 := List G_Club → List G_Member → Int → {R : Type} → (List (List UInt8) → Int → Option R) → Option R
structure C_z48z where
 N : Nat
 z28z : T_z28z
 club_isDay : T_club_isDay
 club_last : T_club_last
 z9z : T_z9z
def z48z_L9 (g : C_z48z) : Nat → List G_Club → Int → Int → List (List UInt8 × G_Member) → List (List UInt8) → List (List UInt8) → {R : Type} → (List (List UInt8) → Option R) → Option R
 | 0, _, _, _, _, _, _, _, _ => none
 | n + 1, v8, v9, v10, v11, v12, v13, _, e0 => (bif (decide (v10 < v9)) then (inr v12 v10 (at_ v12 v10 fun x16 => (bif (!(((mget_string_Member x16 v11).getD (⟨[], [], 0, []⟩ : G_Member)).f_Club == [])) then (g.z9z v8 (⟨((mget_string_Member x16 v11).getD (⟨[], [], 0, []⟩ : G_Member)).f_Call, ((mget_string_Member x16 v11).getD (⟨[], [], 0, []⟩ : G_Member)).f_Club, ((mget_string_Member x16 v11).getD (⟨[], [], 0, []⟩ : G_Member)).f_Day, ((mget_string_Member x16 v11).getD (⟨[], [], 0, []⟩ : G_Member)).f_Locator⟩ : G_Member) (fun r17 => (bif (!r17) then (bif (decide ((v13.length + [x16].length) * 16 ≤ roomBytes')) then z48z_L9 g n v8 v9 (w64 (v10 + 1)) v11 v12 (v13 ++ [x16]) e0 else none) else z48z_L9 g n v8 v9 (w64 (v10 + 1)) v11 v12 v13 e0))) else z48z_L9 g n v8 v9 (w64 (v10 + 1)) v11 v12 v13 e0))) else e0 v13)
def z48z_ (g : C_z48z) (a1 : List G_Club) (a2 : List G_Member) (a3 : Int) {R : Type} (k0 : List (List UInt8) → Int → Option R) : Option R :=
 (g.z28z a1 a2 (fun r4 => (bif (r4 != 0) then k0 [] r4 else (g.club_isDay a3 (fun r5 => (bif (!r5) then k0 [] 1 else (g.club_last a2 a3 (fun r6 => (keys_ (srtK9 (List.map (fun p => p.1) r6)) fun x7 => (z48z_L9 g g.N a1 (x7.length : Int) 0 r6 x7 [] (fun e18 => k0 e18 0)))))))))))
noncomputable def I_z48z [Fuel] : C_z48z := ⟨NN, @z28z _, @club_isDay _, @club_last _, @z9z _⟩
noncomputable def z48z [Fuel] : T_z48z := @z48z_ I_z48z
def SS_z48z (g : T_z48z) : Spec A := fun args => match args with | [.d (.sl 81 a1), .d (.sl 85 a2), .d (.int .i64 a3)] => fun k => g a1 a2 a3 (fun z0 z1 => k (.tup [.arr 9 z0, .d (.int .i64 z1)]) [.undef, .undef, .undef]) | _ => fun _ => none
def sh_z48z_L9 : SSt := mkSh 52 7 [(0, .sl 81), (9, .own 9 3), (10, .mp 0), (28, .own 9 2), (29, .int .i64), (30, .int .i64)] [(0, .mp 9 85), (2, .row 9), (3, .row 9)]
def LP_z48z_L9 (g : C_z48z) (n : Nat) : LPT A := fun ps => match ps with | [.d (.sl 81 p1), .d (.int .i64 p2), .d (.int .i64 p3), .mp 9 85 p4, .d (.sl 9 p5), .d (.sl 9 p6)] => fun K => z48z_L9 g n p1 p2 p3 p4 p5 p6 (fun z0 => K (.exit 0) (mkSt 52 7 [(9, .own 9 3)] [(3, some (.row 9 z0))])) | _ => fun _ => none
noncomputable def code_30 : Code := (Tryz.f30.body).getD .skip
noncomputable def E_z48z (g : C_z48z) : Env A := mkE [(90, SS_z28z g.z28z), (91, SS_club_isDay g.club_isDay), (92, SS_club_last g.club_last), (95, SS_z9z g.z9z)] [(13, [4]), (25, [0]), (27, [1]), (28, [2]), (48, [5]), (49, [6])] [(9, ⟨[0, 9, 10, 28, 29, 30], [(9, 9, 3)], [0, 2], [], [], []⟩)] [(9, ⟨[9], [], [3], [], [], []⟩)] [(9, pieceOf sh_z48z_L9 (LP_z48z_L9 g g.N))] [] [] [] [] []
theorem ct_z48z [Fuel] : NatTab (E_z48z I_z48z).C := ct_of (P := Tryz.prog) (T := T) (.cons ok_z28z (.cons ok_club_isDay (.cons ok_club_last (.cons ok_z9z .nil)))) (by kernel_rfl)
noncomputable def cb_z48z_L9 : Code := sub [1, 1, 1, 1, 1, 0, 1, 0, 0] code_30
theorem s_z48z_L9 (g : C_z48z) (n : Nat) : StepOk (E_z48z g) g.N cb_z48z_L9 sh_z48z_L9 (LP_z48z_L9 g) n := by intro ps; unfold LP_z48z_L9; split; exact .inr fun R K => (by kernel_rfl); exact .inl fun R K => rfl
theorem lf_z48z_L9 [Fuel] : LoopFine (E_z48z I_z48z) NN cb_z48z_L9 := fine_loop sh_z48z_L9 (LP_z48z_L9 I_z48z) (by kernel_rfl) ct_z48z (cuts0 (fun _ => rfl) (by kernel_rfl)) (fun ps R K => by unfold LP_z48z_L9; split <;> (try unfold z48z_L9) <;> rfl) (s_z48z_L9 I_z48z)
theorem sm_z48z (g : C_z48z) : Same (SS_z48z (@z48z_ g)) (abody (E_z48z g) Tryz.f30 code_30 7 [] [.arr 9, .asis] g.N) := by intro args; unfold SS_z48z; split; exact .inr fun R k => (by kernel_rfl); exact .inl fun R k => rfl
theorem ok_z48z [Fuel] : Ok 30 (SS_z48z (@z48z _)) := okF_of std (.cons ok_z28z (.cons ok_club_isDay (.cons ok_club_last (.cons ok_z9z .nil)))) ⟨rfl, rfl, by kernel_rfl, rfl, rfl, rfl⟩ (sm_z48z I_z48z) (cutsL (fun _ => rfl) (.cons lf_z48z_L9 .nil) (by kernel_rfl)) Tryz.func30 (by kernel_rfl) (by kernel_rfl)
abbrev T_z85z : Type 1 := List UInt8 → {R : Type} → (Bool → Option R) → Option R
def z85z_ (g : Nat) (a1 : List UInt8) {R : Type} (k0 : Bool → Option R) : Option R :=
 k0 (!(a1 == a1))
noncomputable def z85z [Fuel] : T_z85z := @z85z_ NN
def SS_z85z (g : T_z85z) : Spec A := fun args => match args with | [.d (.str a1)] => fun k => g a1 (fun z0 => k (.d (.bool z0)) [.undef]) | _ => fun _ => none
noncomputable def code_147 : Code := (Tryz.f147.body).getD .skip
noncomputable def E_z85z (g : Nat) : Env A := mkE [] [] [] [] [] [] [] [] [] []
theorem sm_z85z (g : Nat) : Same (SS_z85z (@z85z_ g)) (abody (E_z85z g) Tryz.f147 code_147 0 [] [.asis] g) := by intro args; unfold SS_z85z; split; exact .inr fun R k => (by kernel_rfl); exact .inl fun R k => rfl
theorem ok_z85z [Fuel] : Ok 147 (SS_z85z (@z85z _)) := okF_of std .nil ⟨rfl, rfl, by kernel_rfl, rfl, rfl, rfl⟩ (sm_z85z NN) (cuts0 (fun _ => rfl) (by kernel_rfl)) Tryz.func147 (by kernel_rfl) (by kernel_rfl)
abbrev T_z74z : Type 1 := List UInt8 → List UInt8 → {R : Type} → (Bool → Option R) → Option R
structure C_z74z where
 N : Nat
 z85z : T_z85z
def z74z_ (g : C_z74z) (a1 a2 : List UInt8) {R : Type} (k0 : Bool → Option R) : Option R :=
 (g.z85z a1 (fun r3 => (bif r3 then (g.z85z a2 (fun r4 => (bif (!r4) then k0 true else k0 (Op.bytesLess a1 a2)))) else k0 (Op.bytesLess a1 a2))))
noncomputable def I_z74z [Fuel] : C_z74z := ⟨NN, @z85z _⟩
noncomputable def z74z [Fuel] : T_z74z := @z74z_ I_z74z
def SS_z74z (g : T_z74z) : Spec A := fun args => match args with | [.d (.str a1), .d (.str a2)] => fun k => g a1 a2 (fun z0 => k (.d (.bool z0)) [.undef, .undef]) | _ => fun _ => none
noncomputable def code_96 : Code := (Tryz.f96.body).getD .skip
noncomputable def E_z74z (g : C_z74z) : Env A := mkE [(147, SS_z85z g.z85z)] [] [] [] [] [] [] [] [] []
theorem sm_z74z (g : C_z74z) : Same (SS_z74z (@z74z_ g)) (abody (E_z74z g) Tryz.f96 code_96 0 [] [.asis] g.N) := by intro args; unfold SS_z74z; split; exact .inr fun R k => (by kernel_rfl); exact .inl fun R k => rfl
theorem ok_z74z [Fuel] : Ok 96 (SS_z74z (@z74z _)) := okF_of std (.cons ok_z85z .nil) ⟨rfl, rfl, by kernel_rfl, rfl, rfl, rfl⟩ (sm_z74z I_z74z) (cuts0 (fun _ => rfl) (by kernel_rfl)) Tryz.func96 (by kernel_rfl) (by kernel_rfl)
abbrev T_z23z : Type 1 := List (List UInt8) → {R : Type} → (Bool → Option R) → Option R
structure C_z23z where
 N : Nat
 z74z : T_z74z
def z23z_L2 (g : C_z23z) : Nat → List (List UInt8) → Int → {R : Type} → (Bool → Option R) → Option R → Option R
 | 0, _, _, _, _, _ => none
 | n + 1, v2, v3, _, e0, e1 => (bif (decide (v3 > 0)) then (get_ v2 v3 fun x7 => (get_ v2 (w64 (v3 - 1)) fun x8 => (g.z74z x7 x8 (fun r9 => (bif r9 then e0 false else z23z_L2 g n v2 (w64 (v3 - 1)) e0 e1))))) else e1)
def z23z_ (g : C_z23z) (a1 : List (List UInt8)) {R : Type} (k0 : Bool → Option R) : Option R :=
 (z23z_L2 g g.N a1 (w64 ((a1.length : Int) - 1)) (fun e10 => k0 e10) (k0 true))
noncomputable def I_z23z [Fuel] : C_z23z := ⟨NN, @z74z _⟩
noncomputable def z23z [Fuel] : T_z23z := @z23z_ I_z23z
def SS_z23z (g : T_z23z) : Spec A := fun args => match args with | [.d (.sl 9 a1)] => fun k => g a1 (fun z0 => k (.d (.bool z0)) [.undef]) | _ => fun _ => none
def sh_z23z_L2 : SSt := mkSh 21 0 [(0, .sl 9), (3, .int .i64)] []
def LP_z23z_L2 (g : C_z23z) (n : Nat) : LPT A := fun ps => match ps with | [.d (.sl 9 p1), .d (.int .i64 p2)] => fun K => z23z_L2 g n p1 p2 (fun z0 => K .ret (mkSt 21 0 [(2, .d (.bool z0))] [])) (K (.exit 0) (mkSt 21 0 [] [])) | _ => fun _ => none
noncomputable def code_31 : Code := (Tryz.f31.body).getD .skip
noncomputable def E_z23z (g : C_z23z) : Env A := mkE [(96, SS_z74z g.z74z)] [] [(2, ⟨[0, 3], [], [], [], [], []⟩)] [(2, ⟨[2], [], [], [], [], []⟩)] [(2, pieceOf sh_z23z_L2 (LP_z23z_L2 g g.N))] [] [] [] [] []
theorem ct_z23z [Fuel] : NatTab (E_z23z I_z23z).C := ct_of (P := Tryz.prog) (T := T) (.cons ok_z74z .nil) (by kernel_rfl)
noncomputable def cb_z23z_L2 : Code := sub [1, 0, 1, 0, 0] code_31
theorem s_z23z_L2 (g : C_z23z) (n : Nat) : StepOk (E_z23z g) g.N cb_z23z_L2 sh_z23z_L2 (LP_z23z_L2 g) n := by intro ps; unfold LP_z23z_L2; split; exact .inr fun R K => (by kernel_rfl); exact .inl fun R K => rfl
theorem lf_z23z_L2 [Fuel] : LoopFine (E_z23z I_z23z) NN cb_z23z_L2 := fine_loop sh_z23z_L2 (LP_z23z_L2 I_z23z) (by kernel_rfl) ct_z23z (cuts0 (fun _ => rfl) (by kernel_rfl)) (fun ps R K => by unfold LP_z23z_L2; split <;> (try unfold z23z_L2) <;> rfl) (s_z23z_L2 I_z23z)
theorem sm_z23z (g : C_z23z) : Same (SS_z23z (@z23z_ g)) (abody (E_z23z g) Tryz.f31 code_31 0 [] [.asis] g.N) := by intro args; unfold SS_z23z; split; exact .inr fun R k => (by kernel_rfl); exact .inl fun R k => rfl
theorem ok_z23z [Fuel] : Ok 31 (SS_z23z (@z23z _)) := okF_of std (.cons ok_z74z .nil) ⟨rfl, rfl, by kernel_rfl, rfl, rfl, rfl⟩ (sm_z23z I_z23z) (cutsL (fun _ => rfl) (.cons lf_z23z_L2 .nil) (by kernel_rfl)) Tryz.func31 (by kernel_rfl) (by kernel_rfl)
abbrev T_z88z : Type 1 := List G_Club → List (List UInt8 × G_Member) → List UInt8 → {R : Type} → (List UInt8 → List (List UInt8 × G_Member) → Option R) → Option R
structure C_z88z where
 N : Nat
 z9z : T_z9z
def z88z_ (g : C_z88z) (a1 : List G_Club) (a2 : List (List UInt8 × G_Member)) (a3 : List UInt8) {R : Type} (k0 : List UInt8 → List (List UInt8 × G_Member) → Option R) : Option R :=
 (bif (!(mget_string_Member a3 a2).isSome) then k0 [] a2 else (g.z9z a1 (⟨((mget_string_Member a3 a2).getD (⟨[], [], 0, []⟩ : G_Member)).f_Call, ((mget_string_Member a3 a2).getD (⟨[], [], 0, []⟩ : G_Member)).f_Club, ((mget_string_Member a3 a2).getD (⟨[], [], 0, []⟩ : G_Member)).f_Day, ((mget_string_Member a3 a2).getD (⟨[], [], 0, []⟩ : G_Member)).f_Locator⟩ : G_Member) (fun r4 => (bif (!r4) then k0 [] a2 else k0 (((mget_string_Member a3 a2).getD (⟨[], [], 0, []⟩ : G_Member)).f_Club) a2))))
noncomputable def I_z88z [Fuel] : C_z88z := ⟨NN, @z9z _⟩
noncomputable def z88z [Fuel] : T_z88z := @z88z_ I_z88z
def SS_z88z (g : T_z88z) : Spec A := fun args => match args with | [.d (.sl 81 a1), .mp 9 85 a2, .d (.str a3)] => fun k => g a1 a2 a3 (fun z0 z1 => k (.d (.str z0)) [.undef, .mp 9 85 z1, .undef]) | _ => fun _ => none
noncomputable def code_98 : Code := (Tryz.f98.body).getD .skip
noncomputable def E_z88z (g : C_z88z) : Env A := mkE [(95, SS_z9z g.z9z)] [(7, [1])] [] [] [] [] [] [] [] [1]
theorem sm_z88z (g : C_z88z) : Same (SS_z88z (@z88z_ g)) (abody (E_z88z g) Tryz.f98 code_98 2 [0] [.asis] g.N) := by intro args; unfold SS_z88z; split; exact .inr fun R k => (by kernel_rfl); exact .inl fun R k => rfl
theorem ok_z88z [Fuel] : Ok 98 (SS_z88z (@z88z _)) := okF_of std (.cons ok_z9z .nil) ⟨rfl, rfl, by kernel_rfl, rfl, rfl, rfl⟩ (sm_z88z I_z88z) (cuts0 (fun _ => rfl) (by kernel_rfl)) Tryz.func98 (by kernel_rfl) (by kernel_rfl)
abbrev T_club_Of : Type 1 := List G_Club → List G_Member → List UInt8 → Int → {R : Type} → (List UInt8 → Int → Option R) → Option R
structure C_club_Of where
 N : Nat
 z28z : T_z28z
 club_isDay : T_club_isDay
 club_last : T_club_last
 call_Is : T_call_Is
 z88z : T_z88z
 z73z : T_z73z
def club_Of_ (g : C_club_Of) (a1 : List G_Club) (a2 : List G_Member) (a3 : List UInt8) (a4 : Int) {R : Type} (k0 : List UInt8 → Int → Option R) : Option R :=
 (g.z28z a1 a2 (fun r5 => (bif (r5 != 0) then k0 [] r5 else (g.call_Is a3 (fun r6 => (bif (!r6) then k0 [] 3 else (g.club_isDay a4 (fun r7 => (bif (!r7) then k0 [] 1 else (g.club_last a2 a4 (fun r8 => (g.z73z a3 (fun r9 => (g.z88z a1 r8 r9 (fun r10 r11 => k0 r10 0)))))))))))))))
noncomputable def I_club_Of [Fuel] : C_club_Of := ⟨NN, @z28z _, @club_isDay _, @club_last _, @call_Is _, @z88z _, @z73z _⟩
noncomputable def club_Of [Fuel] : T_club_Of := @club_Of_ I_club_Of
def SS_club_Of (g : T_club_Of) : Spec A := fun args => match args with | [.d (.sl 81 a1), .d (.sl 85 a2), .d (.str a3), .d (.int .i64 a4)] => fun k => g a1 a2 a3 a4 (fun z0 z1 => k (.tup [.d (.str z0), .d (.int .i64 z1)]) [.undef, .undef, .undef, .undef]) | _ => fun _ => none
noncomputable def code_32 : Code := (Tryz.f32.body).getD .skip
noncomputable def E_club_Of (g : C_club_Of) : Env A := mkE [(90, SS_z28z g.z28z), (91, SS_club_isDay g.club_isDay), (92, SS_club_last g.club_last), (97, SS_call_Is g.call_Is), (98, SS_z88z g.z88z), (99, SS_z73z g.z73z)] [(26, [0])] [] [] [] [] [] [] [] []
theorem sm_club_Of (g : C_club_Of) : Same (SS_club_Of (@club_Of_ g)) (abody (E_club_Of g) Tryz.f32 code_32 1 [] [.asis, .asis] g.N) := by intro args; unfold SS_club_Of; split; exact .inr fun R k => (by kernel_rfl); exact .inl fun R k => rfl
theorem ok_club_Of [Fuel] : Ok 32 (SS_club_Of (@club_Of _)) := okF_of std (.cons ok_z28z (.cons ok_club_isDay (.cons ok_club_last (.cons ok_call_Is (.cons ok_z88z (.cons ok_z73z .nil)))))) ⟨rfl, rfl, by kernel_rfl, rfl, rfl, rfl⟩ (sm_club_Of I_club_Of) (cuts0 (fun _ => rfl) (by kernel_rfl)) Tryz.func32 (by kernel_rfl) (by kernel_rfl)
abbrev T_z46z : Type 1 := List (List UInt8) → List UInt8 → {R : Type} → (Int → Option R) → Option R
def z46z_L2 (g : Nat) : Nat → List (List UInt8) → List UInt8 → Int → Int → {R : Type} → (Int → Option R) → Option R → Option R
 | 0, _, _, _, _, _, _, _ => none
 | n + 1, v3, v4, v5, v6, _, e0, e1 => (bif (decide (v6 < v5)) then (get_ v3 v6 fun x8 => (bif (v4 == x8) then e0 v6 else z46z_L2 g n v3 v4 v5 (w64 (v6 + 1)) e0 e1)) else e1)
def z46z_ (g : Nat) (a1 : List (List UInt8)) (a2 : List UInt8) {R : Type} (k0 : Int → Option R) : Option R :=
 (z46z_L2 g g a1 a2 (a1.length : Int) 0 (fun e9 => k0 e9) (k0 (-1)))
noncomputable def z46z [Fuel] : T_z46z := @z46z_ NN
def SS_z46z (g : T_z46z) : Spec A := fun args => match args with | [.d (.sl 9 a1), .d (.str a2)] => fun k => g a1 a2 (fun z0 => k (.d (.int .i64 z0)) [.undef, .undef]) | _ => fun _ => none
def sh_z46z_L2 : SSt := mkSh 19 0 [(0, .sl 9), (1, .str), (7, .int .i64), (8, .int .i64)] []
def LP_z46z_L2 (g : Nat) (n : Nat) : LPT A := fun ps => match ps with | [.d (.sl 9 p1), .d (.str p2), .d (.int .i64 p3), .d (.int .i64 p4)] => fun K => z46z_L2 g n p1 p2 p3 p4 (fun z0 => K .ret (mkSt 19 0 [(4, .d (.int .i64 z0))] [])) (K (.exit 0) (mkSt 19 0 [] [])) | _ => fun _ => none
noncomputable def code_100 : Code := (Tryz.f100.body).getD .skip
noncomputable def E_z46z (g : Nat) : Env A := mkE [] [] [(2, ⟨[0, 1, 7, 8], [], [], [], [], []⟩)] [(2, ⟨[4], [], [], [], [], []⟩)] [(2, pieceOf sh_z46z_L2 (LP_z46z_L2 g g))] [] [] [] [] []
theorem ct_z46z [Fuel] : NatTab (E_z46z NN).C := ct_of (P := Tryz.prog) (T := T) .nil (by kernel_rfl)
noncomputable def cb_z46z_L2 : Code := sub [1, 0, 1, 0, 0] code_100
theorem s_z46z_L2 (g : Nat) (n : Nat) : StepOk (E_z46z g) g cb_z46z_L2 sh_z46z_L2 (LP_z46z_L2 g) n := by intro ps; unfold LP_z46z_L2; split; exact .inr fun R K => (by kernel_rfl); exact .inl fun R K => rfl
theorem lf_z46z_L2 [Fuel] : LoopFine (E_z46z NN) NN cb_z46z_L2 := fine_loop sh_z46z_L2 (LP_z46z_L2 NN) (by kernel_rfl) ct_z46z (cuts0 (fun _ => rfl) (by kernel_rfl)) (fun ps R K => by unfold LP_z46z_L2; split <;> (try unfold z46z_L2) <;> rfl) (s_z46z_L2 NN)
theorem sm_z46z (g : Nat) : Same (SS_z46z (@z46z_ g)) (abody (E_z46z g) Tryz.f100 code_100 0 [] [.asis] g) := by intro args; unfold SS_z46z; split; exact .inr fun R k => (by kernel_rfl); exact .inl fun R k => rfl
theorem ok_z46z [Fuel] : Ok 100 (SS_z46z (@z46z _)) := okF_of std .nil ⟨rfl, rfl, by kernel_rfl, rfl, rfl, rfl⟩ (sm_z46z NN) (cutsL (fun _ => rfl) (.cons lf_z46z_L2 .nil) (by kernel_rfl)) Tryz.func100 (by kernel_rfl) (by kernel_rfl)
abbrev T_z58z : Type 1 := List (List UInt8) → List UInt8 → {R : Type} → (Bool → Option R) → Option R
structure C_z58z where
 N : Nat
 z46z : T_z46z
def z58z_ (g : C_z58z) (a1 : List (List UInt8)) (a2 : List UInt8) {R : Type} (k0 : Bool → Option R) : Option R :=
 (g.z46z a1 a2 (fun r3 => k0 (decide (r3 ≥ 0))))
noncomputable def I_z58z [Fuel] : C_z58z := ⟨NN, @z46z _⟩
noncomputable def z58z [Fuel] : T_z58z := @z58z_ I_z58z
def SS_z58z (g : T_z58z) : Spec A := fun args => match args with | [.d (.sl 9 a1), .d (.str a2)] => fun k => g a1 a2 (fun z0 => k (.d (.bool z0)) [.undef, .undef]) | _ => fun _ => none
noncomputable def code_33 : Code := (Tryz.f33.body).getD .skip
noncomputable def E_z58z (g : C_z58z) : Env A := mkE [(100, SS_z46z g.z46z)] [] [] [] [] [] [] [] [] []
theorem sm_z58z (g : C_z58z) : Same (SS_z58z (@z58z_ g)) (abody (E_z58z g) Tryz.f33 code_33 0 [] [.asis] g.N) := by intro args; unfold SS_z58z; split; exact .inr fun R k => (by kernel_rfl); exact .inl fun R k => rfl
theorem ok_z58z [Fuel] : Ok 33 (SS_z58z (@z58z _)) := okF_of std (.cons ok_z46z .nil) ⟨rfl, rfl, by kernel_rfl, rfl, rfl, rfl⟩ (sm_z58z I_z58z) (cuts0 (fun _ => rfl) (by kernel_rfl)) Tryz.func33 (by kernel_rfl) (by kernel_rfl)
abbrev T_z10z : Type 1 := G_Club → List UInt8 → {R : Type} → (Bool → List UInt8 → Option R) → Option R
def z10z_ (g : Nat) (a1 : G_Club) (a2 : List UInt8) {R : Type} (k0 : Bool → List UInt8 → Option R) : Option R :=
 k0 (a1.f_Key == a2) a2
noncomputable def z10z [Fuel] : T_z10z := @z10z_ NN
def SS_z10z (g : T_z10z) : Spec A := fun args => match args with | [.agg [.d (.str a1), .d (.sl 9 a2)], .box [.d (.str a3)]] => fun k => g ⟨a1, a2⟩ a3 (fun z0 z1 => k (.d (.bool z0)) [.undef, .box [.d (.str z1)]]) | _ => fun _ => none
noncomputable def code_35 : Code := (Tryz.f35.body).getD .skip
noncomputable def E_z10z (g : Nat) : Env A := mkE [] [(2, [1])] [] [] [] [] [] [] [] [1]
theorem sm_z10z (g : Nat) : Same (SS_z10z (@z10z_ g)) (abody (E_z10z g) Tryz.f35 code_35 2 [0] [.asis] g) := by intro args; unfold SS_z10z; split; exact .inr fun R k => (by kernel_rfl); exact .inl fun R k => rfl
theorem ok_z10z [Fuel] : Ok 35 (SS_z10z (@z10z _)) := okF_of std .nil ⟨rfl, rfl, by kernel_rfl, rfl, rfl, rfl⟩ (sm_z10z NN) (cuts0 (fun _ => rfl) (by kernel_rfl)) Tryz.func35 (by kernel_rfl) (by kernel_rfl)
abbrev T_z4z : Type 1 := List G_Club → List UInt8 → {R : Type} → (Int → List UInt8 → Option R) → Option R
structure C_z4z where
 N : Nat
 z10z : T_z10z
def z4z_L2 (g : C_z4z) : Nat → List G_Club → Int → Int → List UInt8 → {R : Type} → (Int → List UInt8 → Option R) → (List UInt8 → Option R) → Option R
 | 0, _, _, _, _, _, _, _ => none
 | n + 1, v3, v4, v5, v6, _, e0, e1 => (bif (decide (v5 < v4)) then (get_ v3 v5 fun x10 => (g.z10z x10 v6 (fun r11 r12 => (bif r11 then e0 v5 r12 else z4z_L2 g n v3 v4 (w64 (v5 + 1)) r12 e0 e1)))) else e1 v6)
def z4z_ (g : C_z4z) (a1 : List G_Club) (a2 : List UInt8) {R : Type} (k0 : Int → List UInt8 → Option R) : Option R :=
 (z4z_L2 g g.N a1 (a1.length : Int) 0 a2 (fun e13 e14 => k0 e13 e14) (fun e15 => k0 (-1) e15))
noncomputable def I_z4z [Fuel] : C_z4z := ⟨NN, @z10z _⟩
noncomputable def z4z [Fuel] : T_z4z := @z4z_ I_z4z
def SS_z4z (g : T_z4z) : Spec A := fun args => match args with | [.d (.sl 81 a1), .fn 35 [.box [.d (.str a2)]]] => fun k => g a1 a2 (fun z0 z1 => k (.d (.int .i64 z0)) [.undef, .fn 35 [.box [.d (.str z1)]]]) | _ => fun _ => none
def sh_z4z_L2 : SSt := mkSh 19 1 [(0, .sl 81), (1, .fn 35 [.ptr 0 0]), (7, .int .i64), (8, .int .i64)] [(0, .box [.str])]
def LP_z4z_L2 (g : C_z4z) (n : Nat) : LPT A := fun ps => match ps with | [.d (.sl 81 p1), .d (.int .i64 p2), .d (.int .i64 p3), .d (.str p4)] => fun K => z4z_L2 g n p1 p2 p3 p4 (fun z0 z1 => K .ret (mkSt 19 1 [(1, .fn 35 [.ptr 0 0]), (4, .d (.int .i64 z0))] [(0, some (.box [.d (.str z1)]))])) (fun z0 => K (.exit 0) (mkSt 19 1 [(1, .fn 35 [.ptr 0 0])] [(0, some (.box [.d (.str z0)]))])) | _ => fun _ => none
noncomputable def E_z4z (g : C_z4z) : Env A := mkE [(35, SS_z10z g.z10z)] [] [(2, ⟨[0, 1, 7, 8], [], [0], [], [], []⟩)] [(2, ⟨[1, 4], [], [0], [], [], []⟩)] [(2, pieceOf sh_z4z_L2 (LP_z4z_L2 g g.N))] [] [] [] [] [1]
theorem ct_z4z [Fuel] : NatTab (E_z4z I_z4z).C := ct_of (P := Tryz.prog) (T := T) (.cons ok_z10z .nil) (by kernel_rfl)
noncomputable def cb_z4z_L2 : Code := sub [1, 0, 1, 0, 0] code_34
theorem s_z4z_L2 (g : C_z4z) (n : Nat) : StepOk (E_z4z g) g.N cb_z4z_L2 sh_z4z_L2 (LP_z4z_L2 g) n := by intro ps; unfold LP_z4z_L2; split; exact .inr fun R K => (by kernel_rfl); exact .inl fun R K => rfl
theorem lf_z4z_L2 [Fuel] : LoopFine (E_z4z I_z4z) NN cb_z4z_L2 := fine_loop sh_z4z_L2 (LP_z4z_L2 I_z4z) (by kernel_rfl) ct_z4z (cuts0 (fun _ => rfl) (by kernel_rfl)) (fun ps R K => by unfold LP_z4z_L2; split <;> (try unfold z4z_L2) <;> rfl) (s_z4z_L2 I_z4z)
theorem sm_z4z (g : C_z4z) : Same (SS_z4z (@z4z_ g)) (abody (E_z4z g) Tryz.f34 code_34 1 [0] [.asis] g.N) := by intro args; unfold SS_z4z; split; exact .inr fun R k => (by kernel_rfl); exact .inl fun R k => rfl
theorem ok_z4z [Fuel] : Ok 34 (SS_z4z (@z4z _)) := okF_of std (.cons ok_z10z .nil) ⟨rfl, rfl, by kernel_rfl, rfl, rfl, rfl⟩ (sm_z4z I_z4z) (cutsL (fun _ => rfl) (.cons lf_z4z_L2 .nil) (by kernel_rfl)) Tryz.func34 (by kernel_rfl) (by kernel_rfl)
abbrev T_z2z : Type 1 := List UInt8 → G_Member → {R : Type} → (Bool → G_Member → Option R) → Option R
structure C_z2z where
 N : Nat
 z62z : T_z62z
def z2z_ (g : C_z2z) (a1 : List UInt8) (a2 : G_Member) {R : Type} (k0 : Bool → G_Member → Option R) : Option R :=
 (g.z62z a2.f_Locator a1 (fun r3 => k0 r3 a2))
noncomputable def I_z2z [Fuel] : C_z2z := ⟨NN, @z62z _⟩
noncomputable def z2z [Fuel] : T_z2z := @z2z_ I_z2z
def SS_z2z (g : T_z2z) : Spec A := fun args => match args with | [.d (.str a1), .box [.d (.str a2), .d (.str a3), .d (.int .i64 a4), .d (.str a5)]] => fun k => g a1 ⟨a2, a3, a4, a5⟩ (fun z0 z1 => k (.d (.bool z0)) [.undef, .box [.d (.str z1.f_Call), .d (.str z1.f_Club), .d (.int .i64 z1.f_Day), .d (.str z1.f_Locator)]]) | _ => fun _ => none
noncomputable def code_39 : Code := (Tryz.f39.body).getD .skip
noncomputable def E_z2z (g : C_z2z) : Env A := mkE [(23, SS_z62z g.z62z)] [] [] [] [] [] [] [] [] [1]
theorem sm_z2z (g : C_z2z) : Same (SS_z2z (@z2z_ g)) (abody (E_z2z g) Tryz.f39 code_39 1 [0] [.asis] g.N) := by intro args; unfold SS_z2z; split; exact .inr fun R k => (by kernel_rfl); exact .inl fun R k => rfl
theorem ok_z2z [Fuel] : Ok 39 (SS_z2z (@z2z _)) := okF_of std (.cons ok_z62z .nil) ⟨rfl, rfl, by kernel_rfl, rfl, rfl, rfl⟩ (sm_z2z I_z2z) (cuts0 (fun _ => rfl) (by kernel_rfl)) Tryz.func39 (by kernel_rfl) (by kernel_rfl)
end Go.Am
