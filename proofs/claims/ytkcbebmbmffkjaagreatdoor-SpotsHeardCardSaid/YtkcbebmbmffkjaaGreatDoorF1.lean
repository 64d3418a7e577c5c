/- The functions of the program as Lean functions, each shown to be what the code computes, part 1. No condition: lemmas for the claim. -/
import Derived.Test.YtkcbebmbmffkjaaGreatDoorF0
import Derived.Test.YtkcbebmbmffkjaaGreatDoorFSh
set_option linter.unusedVariables false
set_option maxRecDepth 100000
namespace Go.Am
open Go Go.Proofs
abbrev T_M_Below : Type 1 := Int → Int → {R : Type} → (Int → Option R) → Option R
def M_Below_ (g : Nat) (a1 a2 : Int) {R : Type} (k0 : Int → Option R) : Option R :=
 (bif (decide (a2 < 1)) then k0 0 else (bif (a2 == 0) then none else (bif (decide ((Int.tmod a1 a2) < 0)) then k0 (w64 ((Int.tmod a1 a2) + a2)) else k0 (Int.tmod a1 a2))))
noncomputable def M_Below [Fuel] : T_M_Below := @M_Below_ NN
def SS_M_Below (g : T_M_Below) : Spec A := fun args => match args with | [.d (.int .i64 a1), .d (.int .i64 a2)] => fun k => g a1 a2 (fun z0 => k (.d (.int .i64 z0)) [.undef, .undef]) | _ => fun _ => none
noncomputable def code_88 : Code := (Tryz.f88.body).getD .skip
noncomputable def E_M_Below (g : Nat) : Env A := mkE [] [] [] [] [] [] [] [] [] []
theorem sm_M_Below (g : Nat) : Same (SS_M_Below (@M_Below_ g)) (abody (E_M_Below g) Tryz.f88 code_88 0 [] [.asis] g) := by intro args; unfold SS_M_Below; split; exact .inr fun R k => (by kernel_rfl); exact .inl fun R k => rfl
theorem ok_M_Below [Fuel] : Ok 88 (SS_M_Below (@M_Below _)) := okF_of std .nil ⟨rfl, rfl, by kernel_rfl, rfl, rfl, rfl⟩ (sm_M_Below NN) (cuts0 (fun _ => rfl) (by kernel_rfl)) Tryz.func88 (by kernel_rfl) (by kernel_rfl)
abbrev T_z67z : Type 1 := G_Stream → Int → {R : Type} → (Int → G_Stream → Option R) → Option R
structure C_z67z where
 N : Nat
 M_Below : T_M_Below
def z67z_ (g : C_z67z) (a1 : G_Stream) (a2 : Int) {R : Type} (k0 : Int → G_Stream → Option R) : Option R :=
 (bif ((a1.f_L.length : Int) == 0) then (g.M_Below (w64 ((w64 (a1.f_at + 1)) * 7919)) a2 (fun r3 => k0 r3 (⟨a1.f_L, (w64 (a1.f_at + 1))⟩ : G_Stream))) else (bif ((a1.f_L.length : Int) == 0) then none else (bif ((a1.f_L.length : Int) == 0) then none else (get_ a1.f_L (Int.tmod (w64 ((w64 (a1.f_at + 1)) - 1)) (a1.f_L.length : Int)) fun x4 => (g.M_Below x4 1073741824 (fun r5 => (g.M_Below (w64 (r5 + (w64 ((w64 (Int.tdiv (w64 ((w64 (a1.f_at + 1)) - 1)) (a1.f_L.length : Int))) * (w64 (7919 + (Int.tmod (w64 ((w64 (a1.f_at + 1)) - 1)) (a1.f_L.length : Int)))))))) a2 (fun r6 => k0 r6 (⟨a1.f_L, (w64 (a1.f_at + 1))⟩ : G_Stream)))))))))
noncomputable def I_z67z [Fuel] : C_z67z := ⟨NN, @M_Below _⟩
noncomputable def z67z [Fuel] : T_z67z := @z67z_ I_z67z
def SS_z67z (g : T_z67z) : Spec A := fun args => match args with | [.box [.d (.sl 3 a1), .d (.int .i64 a2)], .d (.int .i64 a3)] => fun k => g ⟨a1, a2⟩ a3 (fun z0 z1 => k (.d (.int .i64 z0)) [.box [.d (.sl 3 z1.f_L), .d (.int .i64 z1.f_at)], .undef]) | _ => fun _ => none
noncomputable def code_35 : Code := (Tryz.f35.body).getD .skip
noncomputable def E_z67z (g : C_z67z) : Env A := mkE [(88, SS_M_Below g.M_Below)] [] [] [] [] [] [] [] [] [0]
theorem sm_z67z (g : C_z67z) : Same (SS_z67z (@z67z_ g)) (abody (E_z67z g) Tryz.f35 code_35 1 [0] [.asis] g.N) := by intro args; unfold SS_z67z; split; exact .inr fun R k => (by kernel_rfl); exact .inl fun R k => rfl
theorem ok_z67z [Fuel] : Ok 35 (SS_z67z (@z67z _)) := okF_of std (.cons ok_M_Below .nil) ⟨rfl, rfl, by kernel_rfl, rfl, rfl, rfl⟩ (sm_z67z I_z67z) (cuts0 (fun _ => rfl) (by kernel_rfl)) Tryz.func35 (by kernel_rfl) (by kernel_rfl)
abbrev T_z63z : Type 1 := G_Stream → Int → {R : Type} → (Bool → G_Stream → Option R) → Option R
structure C_z63z where
 N : Nat
 z67z : T_z67z
def z63z_ (g : C_z63z) (a1 : G_Stream) (a2 : Int) {R : Type} (k0 : Bool → G_Stream → Option R) : Option R :=
 (g.z67z a1 a2 (fun r3 r4 => k0 (r3 == 0) r4))
noncomputable def I_z63z [Fuel] : C_z63z := ⟨NN, @z67z _⟩
noncomputable def z63z [Fuel] : T_z63z := @z63z_ I_z63z
def SS_z63z (g : T_z63z) : Spec A := fun args => match args with | [.box [.d (.sl 3 a1), .d (.int .i64 a2)], .d (.int .i64 a3)] => fun k => g ⟨a1, a2⟩ a3 (fun z0 z1 => k (.d (.bool z0)) [.box [.d (.sl 3 z1.f_L), .d (.int .i64 z1.f_at)], .undef]) | _ => fun _ => none
noncomputable def code_34 : Code := (Tryz.f34.body).getD .skip
noncomputable def E_z63z (g : C_z63z) : Env A := mkE [(35, SS_z67z g.z67z)] [] [] [] [] [] [] [] [] [0]
theorem sm_z63z (g : C_z63z) : Same (SS_z63z (@z63z_ g)) (abody (E_z63z g) Tryz.f34 code_34 1 [0] [.asis] g.N) := by intro args; unfold SS_z63z; split; exact .inr fun R k => (by kernel_rfl); exact .inl fun R k => rfl
theorem ok_z63z [Fuel] : Ok 34 (SS_z63z (@z63z _)) := okF_of std (.cons ok_z67z .nil) ⟨rfl, rfl, by kernel_rfl, rfl, rfl, rfl⟩ (sm_z63z I_z63z) (cuts0 (fun _ => rfl) (by kernel_rfl)) Tryz.func34 (by kernel_rfl) (by kernel_rfl)
abbrev T_z39z : Type 1 := G_Stream → {R : Type} → (List G_Band → G_Stream → Option R) → Option R
structure C_z39z where
 N : Nat
 z63z : T_z63z
def z39z_L3 (g : C_z39z) : Nat → Int → Int → G_Stream → List G_Band → List G_Band → {R : Type} → (G_Stream → List G_Band → Option R) → Option R
 | 0, _, _, _, _, _, _, _ => none
 | n + 1, v2, v3, v4, v5, v6, _, e0 => (bif (decide (v3 < v2)) then (inr v5 v3 (at_ v5 v3 fun x10 => (g.z63z v4 8 (fun r11 r12 => (bif (!r11) then (bif (decide ((v6.length + [x10].length) * 32 ≤ roomBytes')) then z39z_L3 g n v2 (w64 (v3 + 1)) r12 v5 (v6 ++ [x10]) e0 else none) else z39z_L3 g n v2 (w64 (v3 + 1)) r12 v5 v6 e0))))) else e0 v4 v6)
def z39z_ (g : C_z39z) (a1 : G_Stream) {R : Type} (k0 : List G_Band → G_Stream → Option R) : Option R :=
 (z39z_L3 g g.N ([(⟨[98, 49, 54, 48], 1800000, 2000000⟩ : G_Band), (⟨[98, 52, 48], 7000000, 7300000⟩ : G_Band), (⟨[98, 51, 48], 7300000, 10150000⟩ : G_Band), (⟨[98, 50, 48], 14000000, 14350000⟩ : G_Band)].length : Int) 0 a1 [(⟨[98, 49, 54, 48], 1800000, 2000000⟩ : G_Band), (⟨[98, 52, 48], 7000000, 7300000⟩ : G_Band), (⟨[98, 51, 48], 7300000, 10150000⟩ : G_Band), (⟨[98, 50, 48], 14000000, 14350000⟩ : G_Band)] [] (fun e13 e14 => k0 e14 e13))
noncomputable def I_z39z [Fuel] : C_z39z := ⟨NN, @z63z _⟩
noncomputable def z39z [Fuel] : T_z39z := @z39z_ I_z39z
def SS_z39z (g : T_z39z) : Spec A := fun args => match args with | [.box [.d (.sl 3 a1), .d (.int .i64 a2)]] => fun k => g ⟨a1, a2⟩ (fun z0 z1 => k (.arr 69 z0) [.box [.d (.sl 3 z1.f_L), .d (.int .i64 z1.f_at)]]) | _ => fun _ => none
def sh_z39z_L3 : SSt := mkSh 25 6 [(0, .ptr 0 0), (3, .own 69 2), (10, .own 69 1), (11, .int .i64), (12, .int .i64)] [(0, .box [.sl 3, .int .i64]), (1, .row 69), (2, .row 69)]
def LP_z39z_L3 (g : C_z39z) (n : Nat) : LPT A := fun ps => match ps with | [.d (.int .i64 p1), .d (.int .i64 p2), .d (.sl 3 p3), .d (.int .i64 p4), .d (.sl 69 p5), .d (.sl 69 p6)] => fun K => z39z_L3 g n p1 p2 ⟨p3, p4⟩ p5 p6 (fun z0 z1 => K (.exit 0) (mkSt 25 6 [(0, .ptr 0 0), (3, .own 69 2)] [(0, some (.box [.d (.sl 3 z0.f_L), .d (.int .i64 z0.f_at)])), (2, some (.row 69 z1))])) | _ => fun _ => none
noncomputable def code_33 : Code := (Tryz.f33.body).getD .skip
noncomputable def E_z39z (g : C_z39z) : Env A := mkE [(34, SS_z63z g.z63z)] [(5, [3]), (10, [1]), (21, [4]), (22, [5])] [(3, ⟨[0, 3, 10, 11, 12], [(3, 69, 2)], [0, 1], [], [], [], []⟩)] [(3, ⟨[0, 3], [], [0, 2], [], [], [], []⟩)] [(3, pieceOf sh_z39z_L3 (LP_z39z_L3 g g.N))] [] [] [] [] [0]
theorem ct_z39z [Fuel] : NatTab (E_z39z I_z39z).C := ct_of (P := Tryz.prog) (T := T) (.cons ok_z63z .nil) (by kernel_rfl)
noncomputable def cb_z39z_L3 : Code := sub [1, 1, 0, 1, 0, 0] code_33
theorem s_z39z_L3 (g : C_z39z) (n : Nat) : StepOk (E_z39z g) g.N cb_z39z_L3 sh_z39z_L3 (LP_z39z_L3 g) n := by intro ps; unfold LP_z39z_L3; split; exact .inr fun R K => (by kernel_rfl); exact .inl fun R K => rfl
theorem lf_z39z_L3 [Fuel] : LoopFine (E_z39z I_z39z) NN cb_z39z_L3 := fine_loop sh_z39z_L3 (LP_z39z_L3 I_z39z) (by kernel_rfl) ct_z39z (cuts0 (fun _ => rfl) (by kernel_rfl)) (fun ps R K => by unfold LP_z39z_L3; split <;> (try unfold z39z_L3) <;> rfl) (s_z39z_L3 I_z39z)
theorem sm_z39z (g : C_z39z) : Same (SS_z39z (@z39z_ g)) (abody (E_z39z g) Tryz.f33 code_33 6 [0] [.arr 69] g.N) := by intro args; unfold SS_z39z; split; exact .inr fun R k => (by kernel_rfl); exact .inl fun R k => rfl
theorem ok_z39z [Fuel] : Ok 33 (SS_z39z (@z39z _)) := okF_of std (.cons ok_z63z .nil) ⟨rfl, rfl, by kernel_rfl, rfl, rfl, rfl⟩ (sm_z39z I_z39z) (cutsL (fun _ => rfl) (.cons lf_z39z_L3 .nil) (by kernel_rfl)) Tryz.func33 (by kernel_rfl) (by kernel_rfl)
abbrev T_z74z : Type 1 := G_Stream → List (List UInt8) → {R : Type} → (List UInt8 → G_Stream → Option R) → Option R
structure C_z74z where
 N : Nat
 z67z : T_z67z
def z74z_ (g : C_z74z) (a1 : G_Stream) (a2 : List (List UInt8)) {R : Type} (k0 : List UInt8 → G_Stream → Option R) : Option R :=
 (g.z67z a1 (a2.length : Int) (fun r3 r4 => (get_ a2 r3 fun x5 => k0 x5 r4)))
noncomputable def I_z74z [Fuel] : C_z74z := ⟨NN, @z67z _⟩
noncomputable def z74z [Fuel] : T_z74z := @z74z_ I_z74z
def SS_z74z (g : T_z74z) : Spec A := fun args => match args with | [.box [.d (.sl 3 a1), .d (.int .i64 a2)], .d (.sl 9 a3)] => fun k => g ⟨a1, a2⟩ a3 (fun z0 z1 => k (.d (.str z0)) [.box [.d (.sl 3 z1.f_L), .d (.int .i64 z1.f_at)], .undef]) | _ => fun _ => none
noncomputable def code_36 : Code := (Tryz.f36.body).getD .skip
noncomputable def E_z74z (g : C_z74z) : Env A := mkE [(35, SS_z67z g.z67z)] [] [] [] [] [] [] [] [] [0]
theorem sm_z74z (g : C_z74z) : Same (SS_z74z (@z74z_ g)) (abody (E_z74z g) Tryz.f36 code_36 1 [0] [.asis] g.N) := by intro args; unfold SS_z74z; split; exact .inr fun R k => (by kernel_rfl); exact .inl fun R k => rfl
theorem ok_z74z [Fuel] : Ok 36 (SS_z74z (@z74z _)) := okF_of std (.cons ok_z67z .nil) ⟨rfl, rfl, by kernel_rfl, rfl, rfl, rfl⟩ (sm_z74z I_z74z) (cuts0 (fun _ => rfl) (by kernel_rfl)) Tryz.func36 (by kernel_rfl) (by kernel_rfl)
abbrev T_z68z : Type 1 := G_Stream → List Int → {R : Type} → (Int → G_Stream → Option R) → Option R
structure C_z68z where
 N : Nat
 z67z : T_z67z
def z68z_ (g : C_z68z) (a1 : G_Stream) (a2 : List Int) {R : Type} (k0 : Int → G_Stream → Option R) : Option R :=
 (g.z67z a1 (a2.length : Int) (fun r3 r4 => (get_ a2 r3 fun x5 => k0 x5 r4)))
noncomputable def I_z68z [Fuel] : C_z68z := ⟨NN, @z67z _⟩
noncomputable def z68z [Fuel] : T_z68z := @z68z_ I_z68z
def SS_z68z (g : T_z68z) : Spec A := fun args => match args with | [.box [.d (.sl 3 a1), .d (.int .i64 a2)], .d (.sl 3 a3)] => fun k => g ⟨a1, a2⟩ a3 (fun z0 z1 => k (.d (.int .i64 z0)) [.box [.d (.sl 3 z1.f_L), .d (.int .i64 z1.f_at)], .undef]) | _ => fun _ => none
noncomputable def code_9 : Code := (Tryz.f9.body).getD .skip
noncomputable def E_z68z (g : C_z68z) : Env A := mkE [(35, SS_z67z g.z67z)] [] [] [] [] [] [] [] [] [0]
theorem sm_z68z (g : C_z68z) : Same (SS_z68z (@z68z_ g)) (abody (E_z68z g) Tryz.f9 code_9 1 [0] [.asis] g.N) := by intro args; unfold SS_z68z; split; exact .inr fun R k => (by kernel_rfl); exact .inl fun R k => rfl
theorem ok_z68z [Fuel] : Ok 9 (SS_z68z (@z68z _)) := okF_of std (.cons ok_z67z .nil) ⟨rfl, rfl, by kernel_rfl, rfl, rfl, rfl⟩ (sm_z68z I_z68z) (cuts0 (fun _ => rfl) (by kernel_rfl)) Tryz.func9 (by kernel_rfl) (by kernel_rfl)
abbrev T_z77z : Type 1 := G_Stream → Int → Int → {R : Type} → (Int → G_Stream → Option R) → Option R
structure C_z77z where
 N : Nat
 z67z : T_z67z
def z77z_ (g : C_z77z) (a1 : G_Stream) (a2 a3 : Int) {R : Type} (k0 : Int → G_Stream → Option R) : Option R :=
 (bif (decide (a3 < a2)) then k0 a2 a1 else (g.z67z a1 (w64 ((w64 (a3 - a2)) + 1)) (fun r4 r5 => k0 (w64 (a2 + r4)) r5)))
noncomputable def I_z77z [Fuel] : C_z77z := ⟨NN, @z67z _⟩
noncomputable def z77z [Fuel] : T_z77z := @z77z_ I_z77z
def SS_z77z (g : T_z77z) : Spec A := fun args => match args with | [.box [.d (.sl 3 a1), .d (.int .i64 a2)], .d (.int .i64 a3), .d (.int .i64 a4)] => fun k => g ⟨a1, a2⟩ a3 a4 (fun z0 z1 => k (.d (.int .i64 z0)) [.box [.d (.sl 3 z1.f_L), .d (.int .i64 z1.f_at)], .undef, .undef]) | _ => fun _ => none
noncomputable def code_7 : Code := (Tryz.f7.body).getD .skip
noncomputable def E_z77z (g : C_z77z) : Env A := mkE [(35, SS_z67z g.z67z)] [] [] [] [] [] [] [] [] [0]
theorem sm_z77z (g : C_z77z) : Same (SS_z77z (@z77z_ g)) (abody (E_z77z g) Tryz.f7 code_7 1 [0] [.asis] g.N) := by intro args; unfold SS_z77z; split; exact .inr fun R k => (by kernel_rfl); exact .inl fun R k => rfl
theorem ok_z77z [Fuel] : Ok 7 (SS_z77z (@z77z _)) := okF_of std (.cons ok_z67z .nil) ⟨rfl, rfl, by kernel_rfl, rfl, rfl, rfl⟩ (sm_z77z I_z77z) (cuts0 (fun _ => rfl) (by kernel_rfl)) Tryz.func7 (by kernel_rfl) (by kernel_rfl)
abbrev T_Stream_Odd : Type 1 := G_Stream → Int → Int → {R : Type} → (Int → G_Stream → Option R) → Option R
structure C_Stream_Odd where
 N : Nat
 z77z : T_z77z
 z68z : T_z68z
 z63z : T_z63z
def Stream_Odd_ (g : C_Stream_Odd) (a1 : G_Stream) (a2 a3 : Int) {R : Type} (k0 : Int → G_Stream → Option R) : Option R :=
 (g.z63z a1 12 (fun r4 r5 => (bif r4 then (g.z68z r5 [(w64 (a2 - 1)), (w64 (a3 + 1)), a2, a3, (-1099511627776), 1099511627776] (fun r6 r7 => k0 r6 r7)) else (g.z77z r5 a2 a3 (fun r8 r9 => k0 r8 r9)))))
noncomputable def I_Stream_Odd [Fuel] : C_Stream_Odd := ⟨NN, @z77z _, @z68z _, @z63z _⟩
noncomputable def Stream_Odd [Fuel] : T_Stream_Odd := @Stream_Odd_ I_Stream_Odd
def SS_Stream_Odd (g : T_Stream_Odd) : Spec A := fun args => match args with | [.box [.d (.sl 3 a1), .d (.int .i64 a2)], .d (.int .i64 a3), .d (.int .i64 a4)] => fun k => g ⟨a1, a2⟩ a3 a4 (fun z0 z1 => k (.d (.int .i64 z0)) [.box [.d (.sl 3 z1.f_L), .d (.int .i64 z1.f_at)], .undef, .undef]) | _ => fun _ => none
noncomputable def code_37 : Code := (Tryz.f37.body).getD .skip
noncomputable def E_Stream_Odd (g : C_Stream_Odd) : Env A := mkE [(7, SS_z77z g.z77z), (9, SS_z68z g.z68z), (34, SS_z63z g.z63z)] [(16, [1])] [] [] [] [] [] [] [] [0]
theorem sm_Stream_Odd (g : C_Stream_Odd) : Same (SS_Stream_Odd (@Stream_Odd_ g)) (abody (E_Stream_Odd g) Tryz.f37 code_37 2 [0] [.asis] g.N) := by intro args; unfold SS_Stream_Odd; split; exact .inr fun R k => (by kernel_rfl); exact .inl fun R k => rfl
theorem ok_Stream_Odd [Fuel] : Ok 37 (SS_Stream_Odd (@Stream_Odd _)) := okF_of std (.cons ok_z77z (.cons ok_z68z (.cons ok_z63z .nil))) ⟨rfl, rfl, by kernel_rfl, rfl, rfl, rfl⟩ (sm_Stream_Odd I_Stream_Odd) (cuts0 (fun _ => rfl) (by kernel_rfl)) Tryz.func37 (by kernel_rfl) (by kernel_rfl)
abbrev T_z82z : Type 1 := G_Stream → {R : Type} → (List G_Band → G_Stream → Option R) → Option R
structure C_z82z where
 N : Nat
 z68z : T_z68z
 z39z : T_z39z
 z63z : T_z63z
 z67z : T_z67z
 z74z : T_z74z
 Stream_Odd : T_Stream_Odd
def z82z_ (g : C_z82z) (a1 : G_Stream) {R : Type} (k0 : List G_Band → G_Stream → Option R) : Option R :=
 (g.z39z a1 (fun r2 r3 => (bif (decide ((r2.length : Int) > 0)) then (g.z63z r3 12 (fun r4 r5 => (bif r4 then (g.z67z r5 (r2.length : Int) (fun r6 r7 => (inr r2 r6 (at_ r2 r6 fun x8 => (at_ r2 r6 fun x9 => (at_ r2 r6 fun x10 => (g.z74z r7 [x8.f_Key, [], [98, 50, 48]] (fun r11 r12 => (g.Stream_Odd r12 0 20000 (fun r13 r14 => (g.z68z r14 [x9.f_High, (w64 (x10.f_High + 1)), 30000000000, 30000001000, 0] (fun r15 r16 => (at_ r2 r6 fun x17 => (at_ (set_ r2 r6 (⟨r11, x17.f_Low, x17.f_High⟩ : G_Band)) r6 fun x18 => (at_ (set_ (set_ r2 r6 (⟨r11, x17.f_Low, x17.f_High⟩ : G_Band)) r6 (⟨x18.f_Key, (w64 (1000 * r13)), x18.f_High⟩ : G_Band)) r6 fun x19 => k0 (set_ (set_ (set_ r2 r6 (⟨r11, x17.f_Low, x17.f_High⟩ : G_Band)) r6 (⟨x18.f_Key, (w64 (1000 * r13)), x18.f_High⟩ : G_Band)) r6 (⟨x19.f_Key, x19.f_Low, r15⟩ : G_Band)) r16))))))))))))))) else k0 r2 r5))) else k0 r2 r3)))
noncomputable def I_z82z [Fuel] : C_z82z := ⟨NN, @z68z _, @z39z _, @z63z _, @z67z _, @z74z _, @Stream_Odd _⟩
noncomputable def z82z [Fuel] : T_z82z := @z82z_ I_z82z
def SS_z82z (g : T_z82z) : Spec A := fun args => match args with | [.box [.d (.sl 3 a1), .d (.int .i64 a2)]] => fun k => g ⟨a1, a2⟩ (fun z0 z1 => k (.arr 69 z0) [.box [.d (.sl 3 z1.f_L), .d (.int .i64 z1.f_at)]]) | _ => fun _ => none
noncomputable def code_5 : Code := (Tryz.f5.body).getD .skip
noncomputable def E_z82z (g : C_z82z) : Env A := mkE [(9, SS_z68z g.z68z), (33, SS_z39z g.z39z), (34, SS_z63z g.z63z), (35, SS_z67z g.z67z), (36, SS_z74z g.z74z), (37, SS_Stream_Odd g.Stream_Odd)] [(6, [1]), (28, [2]), (43, [3])] [] [] [] [] [] [] [] [0]
theorem sm_z82z (g : C_z82z) : Same (SS_z82z (@z82z_ g)) (abody (E_z82z g) Tryz.f5 code_5 4 [0] [.arr 69] g.N) := by intro args; unfold SS_z82z; split; exact .inr fun R k => (by kernel_rfl); exact .inl fun R k => rfl
theorem ok_z82z [Fuel] : Ok 5 (SS_z82z (@z82z _)) := okF_of std (.cons ok_z68z (.cons ok_z39z (.cons ok_z63z (.cons ok_z67z (.cons ok_z74z (.cons ok_Stream_Odd .nil)))))) ⟨rfl, rfl, by kernel_rfl, rfl, rfl, rfl⟩ (sm_z82z I_z82z) (cuts0 (fun _ => rfl) (by kernel_rfl)) Tryz.func5 (by kernel_rfl) (by kernel_rfl)
abbrev T_z84z : Type 1 := G_Stream → {R : Type} → (List UInt8 → G_Stream → Option R) → Option R
structure C_z84z where
 N : Nat
 z63z : T_z63z
 z74z : T_z74z
def z84z_ (g : C_z84z) (a1 : G_Stream) {R : Type} (k0 : List UInt8 → G_Stream → Option R) : Option R :=
 (g.z63z a1 60 (fun r2 r3 => (bif r2 then (g.z74z r3 [[], [107, 49], [75, 49, 65, 66], [107, 49, 97, 98, 47], [49, 97], [107, 49, 97, 98, 47, 109, 109, 47, 112]] (fun r4 r5 => k0 r4 r5)) else (g.z74z r3 [[107, 49, 97, 98], [107, 49, 97, 97], [107, 49, 97, 98, 47, 52], [111, 104, 50, 97, 98, 99], [111, 104, 50, 97, 98, 100], [119, 49, 97, 119], [110, 49, 109, 109], [103, 51, 120, 121, 122, 47, 112]] (fun r6 r7 => k0 r6 r7)))))
noncomputable def I_z84z [Fuel] : C_z84z := ⟨NN, @z63z _, @z74z _⟩
noncomputable def z84z [Fuel] : T_z84z := @z84z_ I_z84z
def SS_z84z (g : T_z84z) : Spec A := fun args => match args with | [.box [.d (.sl 3 a1), .d (.int .i64 a2)]] => fun k => g ⟨a1, a2⟩ (fun z0 z1 => k (.d (.str z0)) [.box [.d (.sl 3 z1.f_L), .d (.int .i64 z1.f_at)]]) | _ => fun _ => none
noncomputable def code_38 : Code := (Tryz.f38.body).getD .skip
noncomputable def E_z84z (g : C_z84z) : Env A := mkE [(34, SS_z63z g.z63z), (36, SS_z74z g.z74z)] [(6, [1]), (9, [2])] [] [] [] [] [] [] [] [0]
theorem sm_z84z (g : C_z84z) : Same (SS_z84z (@z84z_ g)) (abody (E_z84z g) Tryz.f38 code_38 3 [0] [.asis] g.N) := by intro args; unfold SS_z84z; split; exact .inr fun R k => (by kernel_rfl); exact .inl fun R k => rfl
theorem ok_z84z [Fuel] : Ok 38 (SS_z84z (@z84z _)) := okF_of std (.cons ok_z63z (.cons ok_z74z .nil)) ⟨rfl, rfl, by kernel_rfl, rfl, rfl, rfl⟩ (sm_z84z I_z84z) (cuts0 (fun _ => rfl) (by kernel_rfl)) Tryz.func38 (by kernel_rfl) (by kernel_rfl)
abbrev T_z78z : Type 1 := Int → {R : Type} → (Bool → Option R) → Option R
def z78z_ (g : Nat) (a1 : Int) {R : Type} (k0 : Bool → Option R) : Option R :=
 k0 (a1 != a1)
noncomputable def z78z [Fuel] : T_z78z := @z78z_ NN
def SS_z78z (g : T_z78z) : Spec A := fun args => match args with | [.d (.int .i64 a1)] => fun k => g a1 (fun z0 => k (.d (.bool z0)) [.undef]) | _ => fun _ => none
noncomputable def code_165 : Code := (Tryz.f165.body).getD .skip
noncomputable def E_z78z (g : Nat) : Env A := mkE [] [] [] [] [] [] [] [] [] []
theorem sm_z78z (g : Nat) : Same (SS_z78z (@z78z_ g)) (abody (E_z78z g) Tryz.f165 code_165 0 [] [.asis] g) := by intro args; unfold SS_z78z; split; exact .inr fun R k => (by kernel_rfl); exact .inl fun R k => rfl
theorem ok_z78z [Fuel] : Ok 165 (SS_z78z (@z78z _)) := okF_of std .nil ⟨rfl, rfl, by kernel_rfl, rfl, rfl, rfl⟩ (sm_z78z NN) (cuts0 (fun _ => rfl) (by kernel_rfl)) Tryz.func165 (by kernel_rfl) (by kernel_rfl)
noncomputable def Ed_z78z (g : Nat) : Env A := mkED [] [] [] [] [] [] [] [] [] []
theorem smd_z78z (g : Nat) : Same (SS_z78z (@z78z_ g)) (abody (Ed_z78z g) Tryz.f165 code_165 0 [] [.asis] g) := by intro args; unfold SS_z78z; split; exact .inr fun R k => (by kernel_rfl); exact .inl fun R k => rfl
theorem okd_z78z [Fuel] : OkD 165 (SS_z78z (@z78z _)) := okF_of stdD .nil ⟨rfl, rfl, by kernel_rfl, rfl, rfl, rfl⟩ (smd_z78z NN) (cuts0 (fun _ => rfl) (by kernel_rfl)) Tryz.func165 (by kernel_rfl) (by kernel_rfl)
abbrev T_z47z : Type 1 := Int → Int → {R : Type} → (Int → Option R) → Option R
structure C_z47z where
 N : Nat
 z78z : T_z78z
def z47z_ (g : C_z47z) (a1 a2 : Int) {R : Type} (k0 : Int → Option R) : Option R :=
 (g.z78z a1 (fun r3 => (g.z78z a2 (fun r4 => (bif r3 then (bif r4 then k0 0 else k0 (-1)) else (bif r4 then k0 1 else (bif (decide (a1 < a2)) then k0 (-1) else (bif (decide (a1 > a2)) then k0 1 else k0 0))))))))
noncomputable def I_z47z [Fuel] : C_z47z := ⟨NN, @z78z _⟩
noncomputable def z47z [Fuel] : T_z47z := @z47z_ I_z47z
def SS_z47z (g : T_z47z) : Spec A := fun args => match args with | [.d (.int .i64 a1), .d (.int .i64 a2)] => fun k => g a1 a2 (fun z0 => k (.d (.int .i64 z0)) [.undef, .undef]) | _ => fun _ => none
noncomputable def code_124 : Code := (Tryz.f124.body).getD .skip
noncomputable def E_z47z (g : C_z47z) : Env A := mkE [(165, SS_z78z g.z78z)] [] [] [] [] [] [] [] [] []
theorem sm_z47z (g : C_z47z) : Same (SS_z47z (@z47z_ g)) (abody (E_z47z g) Tryz.f124 code_124 0 [] [.asis] g.N) := by intro args; unfold SS_z47z; split; exact .inr fun R k => (by kernel_rfl); exact .inl fun R k => rfl
theorem ok_z47z [Fuel] : Ok 124 (SS_z47z (@z47z _)) := okF_of std (.cons ok_z78z .nil) ⟨rfl, rfl, by kernel_rfl, rfl, rfl, rfl⟩ (sm_z47z I_z47z) (cuts0 (fun _ => rfl) (by kernel_rfl)) Tryz.func124 (by kernel_rfl) (by kernel_rfl)
noncomputable def Ed_z47z (g : C_z47z) : Env A := mkED [(165, SS_z78z g.z78z)] [] [] [] [] [] [] [] [] []
theorem smd_z47z (g : C_z47z) : Same (SS_z47z (@z47z_ g)) (abody (Ed_z47z g) Tryz.f124 code_124 0 [] [.asis] g.N) := by intro args; unfold SS_z47z; split; exact .inr fun R k => (by kernel_rfl); exact .inl fun R k => rfl
theorem okd_z47z [Fuel] : OkD 124 (SS_z47z (@z47z _)) := okF_of stdD (.cons okd_z78z .nil) ⟨rfl, rfl, by kernel_rfl, rfl, rfl, rfl⟩ (smd_z47z I_z47z) (cuts0 (fun _ => rfl) (by kernel_rfl)) Tryz.func124 (by kernel_rfl) (by kernel_rfl)
abbrev T_z25z : Type 1 := List Int → List Int → {R : Type} → (Int → Option R) → Option R
structure C_z25z where
 N : Nat
 z47z : T_z47z
def z25z_L2 (g : C_z25z) : Nat → List Int → List Int → List Int → Int → Int → {R : Type} → (List Int → List Int → Int → Option R) → (List Int → List Int → Option R) → Option R
 | 0, _, _, _, _, _, _, _, _ => none
 | n + 1, v3, v4, v5, v6, v7, _, e0, e1 => (bif (decide (v7 < v6)) then (get_ v5 v7 fun x11 => (bif (decide (v7 ≥ (v4.length : Int))) then e0 v3 v4 1 else (get_ v4 v7 fun x12 => (g.z47z x11 x12 (fun r13 => (bif (r13 != 0) then e0 v3 v4 r13 else z25z_L2 g n v3 v4 v5 v6 (w64 (v7 + 1)) e0 e1)))))) else e1 v3 v4)
def z25z_ (g : C_z25z) (a1 a2 : List Int) {R : Type} (k0 : Int → Option R) : Option R :=
 (z25z_L2 g g.N a1 a2 a1 (a1.length : Int) 0 (fun e14 e15 e16 => k0 e16) (fun e17 e18 => (bif (decide ((e17.length : Int) < (e18.length : Int))) then k0 (-1) else k0 0)))
noncomputable def I_z25z [Fuel] : C_z25z := ⟨NN, @z47z _⟩
noncomputable def z25z [Fuel] : T_z25z := @z25z_ I_z25z
def SS_z25z (g : T_z25z) : Spec A := fun args => match args with | [.d (.sl 3 a1), .d (.sl 3 a2)] => fun k => g a1 a2 (fun z0 => k (.d (.int .i64 z0)) [.undef, .undef]) | _ => fun _ => none
def sh_z25z_L2 : SSt := mkSh 36 0 [(0, .sl 3), (1, .sl 3), (9, .sl 3), (10, .int .i64), (11, .int .i64)] []
def LP_z25z_L2 (g : C_z25z) (n : Nat) : LPT A := fun ps => match ps with | [.d (.sl 3 p1), .d (.sl 3 p2), .d (.sl 3 p3), .d (.int .i64 p4), .d (.int .i64 p5)] => fun K => z25z_L2 g n p1 p2 p3 p4 p5 (fun z0 z1 z2 => K .ret (mkSt 36 0 [(0, .d (.sl 3 z0)), (1, .d (.sl 3 z1)), (4, .d (.int .i64 z2))] [])) (fun z0 z1 => K (.exit 0) (mkSt 36 0 [(0, .d (.sl 3 z0)), (1, .d (.sl 3 z1))] [])) | _ => fun _ => none
noncomputable def code_90 : Code := (Tryz.f90.body).getD .skip
noncomputable def E_z25z (g : C_z25z) : Env A := mkE [(124, SS_z47z g.z47z)] [] [(2, ⟨[0, 1, 9, 10, 11], [], [], [], [], [], []⟩)] [(2, ⟨[0, 1, 4], [], [], [], [], [], []⟩)] [(2, pieceOf sh_z25z_L2 (LP_z25z_L2 g g.N))] [] [] [] [] []
theorem ct_z25z [Fuel] : NatTab (E_z25z I_z25z).C := ct_of (P := Tryz.prog) (T := T) (.cons ok_z47z .nil) (by kernel_rfl)
noncomputable def cb_z25z_L2 : Code := sub [1, 0, 1, 0, 0] code_90
theorem s_z25z_L2 (g : C_z25z) (n : Nat) : StepOk (E_z25z g) g.N cb_z25z_L2 sh_z25z_L2 (LP_z25z_L2 g) n := by intro ps; unfold LP_z25z_L2; split; exact .inr fun R K => (by kernel_rfl); exact .inl fun R K => rfl
theorem lf_z25z_L2 [Fuel] : LoopFine (E_z25z I_z25z) NN cb_z25z_L2 := fine_loop sh_z25z_L2 (LP_z25z_L2 I_z25z) (by kernel_rfl) ct_z25z (cuts0 (fun _ => rfl) (by kernel_rfl)) (fun ps R K => by unfold LP_z25z_L2; split <;> (try unfold z25z_L2) <;> rfl) (s_z25z_L2 I_z25z)
theorem sm_z25z (g : C_z25z) : Same (SS_z25z (@z25z_ g)) (abody (E_z25z g) Tryz.f90 code_90 0 [] [.asis] g.N) := by intro args; unfold SS_z25z; split; exact .inr fun R k => (by kernel_rfl); exact .inl fun R k => rfl
theorem ok_z25z [Fuel] : Ok 90 (SS_z25z (@z25z _)) := okF_of std (.cons ok_z47z .nil) ⟨rfl, rfl, by kernel_rfl, rfl, rfl, rfl⟩ (sm_z25z I_z25z) (cutsL (fun _ => rfl) (.cons lf_z25z_L2 .nil) (by kernel_rfl)) Tryz.func90 (by kernel_rfl) (by kernel_rfl)
noncomputable def Ed_z25z (g : C_z25z) : Env A := mkED [(124, SS_z47z g.z47z)] [] [(2, ⟨[0, 1, 9, 10, 11], [], [], [], [], [], []⟩)] [(2, ⟨[0, 1, 4], [], [], [], [], [], []⟩)] [(2, pieceOf sh_z25z_L2 (LP_z25z_L2 g g.N))] [] [] [] [] []
theorem ctd_z25z [Fuel] : NatTab (Ed_z25z I_z25z).C := ct_of (P := Tryz.prog) (T := TD) (.cons okd_z47z .nil) (by kernel_rfl)
theorem sd_z25z_L2 (g : C_z25z) (n : Nat) : StepOk (Ed_z25z g) g.N cb_z25z_L2 sh_z25z_L2 (LP_z25z_L2 g) n := by intro ps; unfold LP_z25z_L2; split; exact .inr fun R K => (by kernel_rfl); exact .inl fun R K => rfl
theorem lfd_z25z_L2 [Fuel] : LoopFine (Ed_z25z I_z25z) NN cb_z25z_L2 := fine_loop sh_z25z_L2 (LP_z25z_L2 I_z25z) (by kernel_rfl) ctd_z25z (cuts0 (fun _ => rfl) (by kernel_rfl)) (fun ps R K => by unfold LP_z25z_L2; split <;> (try unfold z25z_L2) <;> rfl) (sd_z25z_L2 I_z25z)
theorem smd_z25z (g : C_z25z) : Same (SS_z25z (@z25z_ g)) (abody (Ed_z25z g) Tryz.f90 code_90 0 [] [.asis] g.N) := by intro args; unfold SS_z25z; split; exact .inr fun R k => (by kernel_rfl); exact .inl fun R k => rfl
theorem okd_z25z [Fuel] : OkD 90 (SS_z25z (@z25z _)) := okF_of stdD (.cons okd_z47z .nil) ⟨rfl, rfl, by kernel_rfl, rfl, rfl, rfl⟩ (smd_z25z I_z25z) (cutsL (fun _ => rfl) (.cons lfd_z25z_L2 .nil) (by kernel_rfl)) Tryz.func90 (by kernel_rfl) (by kernel_rfl)
abbrev T_z71z : Type 1 := List UInt8 → {R : Type} → (Bool → Option R) → Option R
def z71z_ (g : Nat) (a1 : List UInt8) {R : Type} (k0 : Bool → Option R) : Option R :=
 k0 (!(a1 == a1))
noncomputable def z71z [Fuel] : T_z71z := @z71z_ NN
def SS_z71z (g : T_z71z) : Spec A := fun args => match args with | [.d (.str a1)] => fun k => g a1 (fun z0 => k (.d (.bool z0)) [.undef]) | _ => fun _ => none
noncomputable def code_172 : Code := (Tryz.f172.body).getD .skip
noncomputable def E_z71z (g : Nat) : Env A := mkE [] [] [] [] [] [] [] [] [] []
theorem sm_z71z (g : Nat) : Same (SS_z71z (@z71z_ g)) (abody (E_z71z g) Tryz.f172 code_172 0 [] [.asis] g) := by intro args; unfold SS_z71z; split; exact .inr fun R k => (by kernel_rfl); exact .inl fun R k => rfl
theorem ok_z71z [Fuel] : Ok 172 (SS_z71z (@z71z _)) := okF_of std .nil ⟨rfl, rfl, by kernel_rfl, rfl, rfl, rfl⟩ (sm_z71z NN) (cuts0 (fun _ => rfl) (by kernel_rfl)) Tryz.func172 (by kernel_rfl) (by kernel_rfl)
noncomputable def Ed_z71z (g : Nat) : Env A := mkED [] [] [] [] [] [] [] [] [] []
theorem smd_z71z (g : Nat) : Same (SS_z71z (@z71z_ g)) (abody (Ed_z71z g) Tryz.f172 code_172 0 [] [.asis] g) := by intro args; unfold SS_z71z; split; exact .inr fun R k => (by kernel_rfl); exact .inl fun R k => rfl
theorem okd_z71z [Fuel] : OkD 172 (SS_z71z (@z71z _)) := okF_of stdD .nil ⟨rfl, rfl, by kernel_rfl, rfl, rfl, rfl⟩ (smd_z71z NN) (cuts0 (fun _ => rfl) (by kernel_rfl)) Tryz.func172 (by kernel_rfl) (by kernel_rfl)
abbrev T_z56z : Type 1 := List UInt8 → List UInt8 → {R : Type} → (Int → Option R) → Option R
structure C_z56z where
 N : Nat
 z71z : T_z71z
def z56z_ (g : C_z56z) (a1 a2 : List UInt8) {R : Type} (k0 : Int → Option R) : Option R :=
 (g.z71z a1 (fun r3 => (g.z71z a2 (fun r4 => (bif r3 then (bif r4 then k0 0 else k0 (-1)) else (bif r4 then k0 1 else (bif (Op.bytesLess a1 a2) then k0 (-1) else (bif (!(Op.bytesLess a1 a2 || a1 == a2)) then k0 1 else k0 0))))))))
noncomputable def I_z56z [Fuel] : C_z56z := ⟨NN, @z71z _⟩
noncomputable def z56z [Fuel] : T_z56z := @z56z_ I_z56z
def SS_z56z (g : T_z56z) : Spec A := fun args => match args with | [.d (.str a1), .d (.str a2)] => fun k => g a1 a2 (fun z0 => k (.d (.int .i64 z0)) [.undef, .undef]) | _ => fun _ => none
noncomputable def code_130 : Code := (Tryz.f130.body).getD .skip
noncomputable def E_z56z (g : C_z56z) : Env A := mkE [(172, SS_z71z g.z71z)] [] [] [] [] [] [] [] [] []
theorem sm_z56z (g : C_z56z) : Same (SS_z56z (@z56z_ g)) (abody (E_z56z g) Tryz.f130 code_130 0 [] [.asis] g.N) := by intro args; unfold SS_z56z; split; exact .inr fun R k => (by kernel_rfl); exact .inl fun R k => rfl
theorem ok_z56z [Fuel] : Ok 130 (SS_z56z (@z56z _)) := okF_of std (.cons ok_z71z .nil) ⟨rfl, rfl, by kernel_rfl, rfl, rfl, rfl⟩ (sm_z56z I_z56z) (cuts0 (fun _ => rfl) (by kernel_rfl)) Tryz.func130 (by kernel_rfl) (by kernel_rfl)
noncomputable def Ed_z56z (g : C_z56z) : Env A := mkED [(172, SS_z71z g.z71z)] [] [] [] [] [] [] [] [] []
theorem smd_z56z (g : C_z56z) : Same (SS_z56z (@z56z_ g)) (abody (Ed_z56z g) Tryz.f130 code_130 0 [] [.asis] g.N) := by intro args; unfold SS_z56z; split; exact .inr fun R k => (by kernel_rfl); exact .inl fun R k => rfl
theorem okd_z56z [Fuel] : OkD 130 (SS_z56z (@z56z _)) := okF_of stdD (.cons okd_z71z .nil) ⟨rfl, rfl, by kernel_rfl, rfl, rfl, rfl⟩ (smd_z56z I_z56z) (cuts0 (fun _ => rfl) (by kernel_rfl)) Tryz.func130 (by kernel_rfl) (by kernel_rfl)
abbrev T_z17z : Type 1 := List (List UInt8) → List (List UInt8) → {R : Type} → (Int → Option R) → Option R
structure C_z17z where
 N : Nat
 z56z : T_z56z
def z17z_L2 (g : C_z17z) : Nat → List (List UInt8) → List (List UInt8) → List (List UInt8) → Int → Int → {R : Type} → (List (List UInt8) → List (List UInt8) → Int → Option R) → (List (List UInt8) → List (List UInt8) → Option R) → Option R
 | 0, _, _, _, _, _, _, _, _ => none
 | n + 1, v3, v4, v5, v6, v7, _, e0, e1 => (bif (decide (v7 < v6)) then (get_ v5 v7 fun x11 => (bif (decide (v7 ≥ (v4.length : Int))) then e0 v3 v4 1 else (get_ v4 v7 fun x12 => (g.z56z x11 x12 (fun r13 => (bif (r13 != 0) then e0 v3 v4 r13 else z17z_L2 g n v3 v4 v5 v6 (w64 (v7 + 1)) e0 e1)))))) else e1 v3 v4)
def z17z_ (g : C_z17z) (a1 a2 : List (List UInt8)) {R : Type} (k0 : Int → Option R) : Option R :=
 (z17z_L2 g g.N a1 a2 a1 (a1.length : Int) 0 (fun e14 e15 e16 => k0 e16) (fun e17 e18 => (bif (decide ((e17.length : Int) < (e18.length : Int))) then k0 (-1) else k0 0)))
noncomputable def I_z17z [Fuel] : C_z17z := ⟨NN, @z56z _⟩
noncomputable def z17z [Fuel] : T_z17z := @z17z_ I_z17z
def SS_z17z (g : T_z17z) : Spec A := fun args => match args with | [.d (.sl 9 a1), .d (.sl 9 a2)] => fun k => g a1 a2 (fun z0 => k (.d (.int .i64 z0)) [.undef, .undef]) | _ => fun _ => none
def sh_z17z_L2 : SSt := mkSh 36 0 [(0, .sl 9), (1, .sl 9), (9, .sl 9), (10, .int .i64), (11, .int .i64)] []
def LP_z17z_L2 (g : C_z17z) (n : Nat) : LPT A := fun ps => match ps with | [.d (.sl 9 p1), .d (.sl 9 p2), .d (.sl 9 p3), .d (.int .i64 p4), .d (.int .i64 p5)] => fun K => z17z_L2 g n p1 p2 p3 p4 p5 (fun z0 z1 z2 => K .ret (mkSt 36 0 [(0, .d (.sl 9 z0)), (1, .d (.sl 9 z1)), (4, .d (.int .i64 z2))] [])) (fun z0 z1 => K (.exit 0) (mkSt 36 0 [(0, .d (.sl 9 z0)), (1, .d (.sl 9 z1))] [])) | _ => fun _ => none
noncomputable def code_91 : Code := (Tryz.f91.body).getD .skip
noncomputable def E_z17z (g : C_z17z) : Env A := mkE [(130, SS_z56z g.z56z)] [] [(2, ⟨[0, 1, 9, 10, 11], [], [], [], [], [], []⟩)] [(2, ⟨[0, 1, 4], [], [], [], [], [], []⟩)] [(2, pieceOf sh_z17z_L2 (LP_z17z_L2 g g.N))] [] [] [] [] []
theorem ct_z17z [Fuel] : NatTab (E_z17z I_z17z).C := ct_of (P := Tryz.prog) (T := T) (.cons ok_z56z .nil) (by kernel_rfl)
noncomputable def cb_z17z_L2 : Code := sub [1, 0, 1, 0, 0] code_91
theorem s_z17z_L2 (g : C_z17z) (n : Nat) : StepOk (E_z17z g) g.N cb_z17z_L2 sh_z17z_L2 (LP_z17z_L2 g) n := by intro ps; unfold LP_z17z_L2; split; exact .inr fun R K => (by kernel_rfl); exact .inl fun R K => rfl
theorem lf_z17z_L2 [Fuel] : LoopFine (E_z17z I_z17z) NN cb_z17z_L2 := fine_loop sh_z17z_L2 (LP_z17z_L2 I_z17z) (by kernel_rfl) ct_z17z (cuts0 (fun _ => rfl) (by kernel_rfl)) (fun ps R K => by unfold LP_z17z_L2; split <;> (try unfold z17z_L2) <;> rfl) (s_z17z_L2 I_z17z)
theorem sm_z17z (g : C_z17z) : Same (SS_z17z (@z17z_ g)) (abody (E_z17z g) Tryz.f91 code_91 0 [] [.asis] g.N) := by intro args; unfold SS_z17z; split; exact .inr fun R k => (by kernel_rfl); exact .inl fun R k => rfl
theorem ok_z17z [Fuel] : Ok 91 (SS_z17z (@z17z _)) := okF_of std (.cons ok_z56z .nil) ⟨rfl, rfl, by kernel_rfl, rfl, rfl, rfl⟩ (sm_z17z I_z17z) (cutsL (fun _ => rfl) (.cons lf_z17z_L2 .nil) (by kernel_rfl)) Tryz.func91 (by kernel_rfl) (by kernel_rfl)
noncomputable def Ed_z17z (g : C_z17z) : Env A := mkED [(130, SS_z56z g.z56z)] [] [(2, ⟨[0, 1, 9, 10, 11], [], [], [], [], [], []⟩)] [(2, ⟨[0, 1, 4], [], [], [], [], [], []⟩)] [(2, pieceOf sh_z17z_L2 (LP_z17z_L2 g g.N))] [] [] [] [] []
theorem ctd_z17z [Fuel] : NatTab (Ed_z17z I_z17z).C := ct_of (P := Tryz.prog) (T := TD) (.cons okd_z56z .nil) (by kernel_rfl)
theorem sd_z17z_L2 (g : C_z17z) (n : Nat) : StepOk (Ed_z17z g) g.N cb_z17z_L2 sh_z17z_L2 (LP_z17z_L2 g) n := by intro ps; unfold LP_z17z_L2; split; exact .inr fun R K => (by kernel_rfl); exact .inl fun R K => rfl
theorem lfd_z17z_L2 [Fuel] : LoopFine (Ed_z17z I_z17z) NN cb_z17z_L2 := fine_loop sh_z17z_L2 (LP_z17z_L2 I_z17z) (by kernel_rfl) ctd_z17z (cuts0 (fun _ => rfl) (by kernel_rfl)) (fun ps R K => by unfold LP_z17z_L2; split <;> (try unfold z17z_L2) <;> rfl) (sd_z17z_L2 I_z17z)
theorem smd_z17z (g : C_z17z) : Same (SS_z17z (@z17z_ g)) (abody (Ed_z17z g) Tryz.f91 code_91 0 [] [.asis] g.N) := by intro args; unfold SS_z17z; split; exact .inr fun R k => (by kernel_rfl); exact .inl fun R k => rfl
theorem okd_z17z [Fuel] : OkD 91 (SS_z17z (@z17z _)) := okF_of stdD (.cons okd_z56z .nil) ⟨rfl, rfl, by kernel_rfl, rfl, rfl, rfl⟩ (smd_z17z I_z17z) (cutsL (fun _ => rfl) (.cons lfd_z17z_L2 .nil) (by kernel_rfl)) Tryz.func91 (by kernel_rfl) (by kernel_rfl)
end Go.Am
