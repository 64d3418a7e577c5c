/- The functions of the program as Lean functions, each shown to be what the code computes, part 1. No condition: lemmas for the claim. -/
import Derived.Test.YtdpapgakljjnnaaGreatDoorF0
import Derived.Test.YtdpapgakljjnnaaGreatDoorFSh
set_option linter.unusedVariables false
set_option maxRecDepth 100000
namespace Go.Am
open Go Go.Proofs
abbrev T_M_Below : Type 1 := Int → Int → {R : Type} → (Int → Option R) → Option R
def M_Below_ (g : Nat) (a1 a2 : Int) {R : Type} (k0 : Int → Option R) : Option R :=
 (bif (decide (a2 < 1)) then k0 0 else (bif (a2 == 0) then none else (bif (decide ((Int.tmod a1 a2) < 0)) then k0 (w64 ((Int.tmod a1 a2) + a2)) else k0 (Int.tmod a1 a2))))
noncomputable def M_Below [Fuel] : T_M_Below := @M_Below_ NN
def SS_M_Below (g : T_M_Below) : Spec A := fun args => match args with | [.d (.int .i64 a1), .d (.int .i64 a2)] => fun k => g a1 a2 (fun z0 => k (.d (.int .i64 z0)) [.undef, .undef]) | _ => fun _ => none
noncomputable def code_56 : Code := (Tryz.f56.body).getD .skip
noncomputable def E_M_Below (g : Nat) : Env A := mkE [] [] [] [] [] [] [] [] [] []
theorem sm_M_Below (g : Nat) : Same (SS_M_Below (@M_Below_ g)) (abody (E_M_Below g) Tryz.f56 code_56 0 [] [.asis] g) := by intro args; unfold SS_M_Below; split; exact .inr fun R k => (by kernel_rfl); exact .inl fun R k => rfl
theorem ok_M_Below [Fuel] : Ok 56 (SS_M_Below (@M_Below _)) := okF_of std .nil ⟨rfl, rfl, by kernel_rfl, rfl, rfl, rfl⟩ (sm_M_Below NN) (cuts0 (fun _ => rfl) (by kernel_rfl)) Tryz.func56 (by kernel_rfl) (by kernel_rfl)
abbrev T_z34z : Type 1 := G_Stream → Int → {R : Type} → (Int → G_Stream → Option R) → Option R
structure C_z34z where
 N : Nat
 M_Below : T_M_Below
def z34z_ (g : C_z34z) (a1 : G_Stream) (a2 : Int) {R : Type} (k0 : Int → G_Stream → Option R) : Option R :=
 (bif ((a1.f_L.length : Int) == 0) then (g.M_Below (w64 ((w64 (a1.f_at + 1)) * 7919)) a2 (fun r3 => k0 r3 (⟨a1.f_L, (w64 (a1.f_at + 1))⟩ : G_Stream))) else (bif ((a1.f_L.length : Int) == 0) then none else (bif ((a1.f_L.length : Int) == 0) then none else (get_ a1.f_L (Int.tmod (w64 ((w64 (a1.f_at + 1)) - 1)) (a1.f_L.length : Int)) fun x4 => (g.M_Below x4 1073741824 (fun r5 => (g.M_Below (w64 (r5 + (w64 ((w64 (Int.tdiv (w64 ((w64 (a1.f_at + 1)) - 1)) (a1.f_L.length : Int))) * (w64 (7919 + (Int.tmod (w64 ((w64 (a1.f_at + 1)) - 1)) (a1.f_L.length : Int)))))))) a2 (fun r6 => k0 r6 (⟨a1.f_L, (w64 (a1.f_at + 1))⟩ : G_Stream)))))))))
noncomputable def I_z34z [Fuel] : C_z34z := ⟨NN, @M_Below _⟩
noncomputable def z34z [Fuel] : T_z34z := @z34z_ I_z34z
def SS_z34z (g : T_z34z) : Spec A := fun args => match args with | [.box [.d (.sl 3 a1), .d (.int .i64 a2)], .d (.int .i64 a3)] => fun k => g ⟨a1, a2⟩ a3 (fun z0 z1 => k (.d (.int .i64 z0)) [.box [.d (.sl 3 z1.f_L), .d (.int .i64 z1.f_at)], .undef]) | _ => fun _ => none
noncomputable def code_12 : Code := (Tryz.f12.body).getD .skip
noncomputable def E_z34z (g : C_z34z) : Env A := mkE [(56, SS_M_Below g.M_Below)] [] [] [] [] [] [] [] [] [0]
theorem sm_z34z (g : C_z34z) : Same (SS_z34z (@z34z_ g)) (abody (E_z34z g) Tryz.f12 code_12 1 [0] [.asis] g.N) := by intro args; unfold SS_z34z; split; exact .inr fun R k => (by kernel_rfl); exact .inl fun R k => rfl
theorem ok_z34z [Fuel] : Ok 12 (SS_z34z (@z34z _)) := okF_of std (.cons ok_M_Below .nil) ⟨rfl, rfl, by kernel_rfl, rfl, rfl, rfl⟩ (sm_z34z I_z34z) (cuts0 (fun _ => rfl) (by kernel_rfl)) Tryz.func12 (by kernel_rfl) (by kernel_rfl)
abbrev T_z39z : Type 1 := G_Stream → Int → Int → {R : Type} → (Int → G_Stream → Option R) → Option R
structure C_z39z where
 N : Nat
 z34z : T_z34z
def z39z_ (g : C_z39z) (a1 : G_Stream) (a2 a3 : Int) {R : Type} (k0 : Int → G_Stream → Option R) : Option R :=
 (bif (decide (a3 < a2)) then k0 a2 a1 else (g.z34z a1 (w64 ((w64 (a3 - a2)) + 1)) (fun r4 r5 => k0 (w64 (a2 + r4)) r5)))
noncomputable def I_z39z [Fuel] : C_z39z := ⟨NN, @z34z _⟩
noncomputable def z39z [Fuel] : T_z39z := @z39z_ I_z39z
def SS_z39z (g : T_z39z) : Spec A := fun args => match args with | [.box [.d (.sl 3 a1), .d (.int .i64 a2)], .d (.int .i64 a3), .d (.int .i64 a4)] => fun k => g ⟨a1, a2⟩ a3 a4 (fun z0 z1 => k (.d (.int .i64 z0)) [.box [.d (.sl 3 z1.f_L), .d (.int .i64 z1.f_at)], .undef, .undef]) | _ => fun _ => none
noncomputable def code_8 : Code := (Tryz.f8.body).getD .skip
noncomputable def E_z39z (g : C_z39z) : Env A := mkE [(12, SS_z34z g.z34z)] [] [] [] [] [] [] [] [] [0]
theorem sm_z39z (g : C_z39z) : Same (SS_z39z (@z39z_ g)) (abody (E_z39z g) Tryz.f8 code_8 1 [0] [.asis] g.N) := by intro args; unfold SS_z39z; split; exact .inr fun R k => (by kernel_rfl); exact .inl fun R k => rfl
theorem ok_z39z [Fuel] : Ok 8 (SS_z39z (@z39z _)) := okF_of std (.cons ok_z34z .nil) ⟨rfl, rfl, by kernel_rfl, rfl, rfl, rfl⟩ (sm_z39z I_z39z) (cuts0 (fun _ => rfl) (by kernel_rfl)) Tryz.func8 (by kernel_rfl) (by kernel_rfl)
abbrev T_z44z : Type 1 := G_Stream → List Int → {R : Type} → (Int → G_Stream → Option R) → Option R
structure C_z44z where
 N : Nat
 z34z : T_z34z
def z44z_ (g : C_z44z) (a1 : G_Stream) (a2 : List Int) {R : Type} (k0 : Int → G_Stream → Option R) : Option R :=
 (g.z34z a1 (a2.length : Int) (fun r3 r4 => (get_ a2 r3 fun x5 => k0 x5 r4)))
noncomputable def I_z44z [Fuel] : C_z44z := ⟨NN, @z34z _⟩
noncomputable def z44z [Fuel] : T_z44z := @z44z_ I_z44z
def SS_z44z (g : T_z44z) : Spec A := fun args => match args with | [.box [.d (.sl 3 a1), .d (.int .i64 a2)], .d (.sl 3 a3)] => fun k => g ⟨a1, a2⟩ a3 (fun z0 z1 => k (.d (.int .i64 z0)) [.box [.d (.sl 3 z1.f_L), .d (.int .i64 z1.f_at)], .undef]) | _ => fun _ => none
noncomputable def code_39 : Code := (Tryz.f39.body).getD .skip
noncomputable def E_z44z (g : C_z44z) : Env A := mkE [(12, SS_z34z g.z34z)] [] [] [] [] [] [] [] [] [0]
theorem sm_z44z (g : C_z44z) : Same (SS_z44z (@z44z_ g)) (abody (E_z44z g) Tryz.f39 code_39 1 [0] [.asis] g.N) := by intro args; unfold SS_z44z; split; exact .inr fun R k => (by kernel_rfl); exact .inl fun R k => rfl
theorem ok_z44z [Fuel] : Ok 39 (SS_z44z (@z44z _)) := okF_of std (.cons ok_z34z .nil) ⟨rfl, rfl, by kernel_rfl, rfl, rfl, rfl⟩ (sm_z44z I_z44z) (cuts0 (fun _ => rfl) (by kernel_rfl)) Tryz.func39 (by kernel_rfl) (by kernel_rfl)
abbrev T_z21z : Type 1 := G_Stream → List (List UInt8) → {R : Type} → (List UInt8 → G_Stream → Option R) → Option R
structure C_z21z where
 N : Nat
 z34z : T_z34z
def z21z_ (g : C_z21z) (a1 : G_Stream) (a2 : List (List UInt8)) {R : Type} (k0 : List UInt8 → G_Stream → Option R) : Option R :=
 (g.z34z a1 (a2.length : Int) (fun r3 r4 => (get_ a2 r3 fun x5 => k0 x5 r4)))
noncomputable def I_z21z [Fuel] : C_z21z := ⟨NN, @z34z _⟩
noncomputable def z21z [Fuel] : T_z21z := @z21z_ I_z21z
def SS_z21z (g : T_z21z) : Spec A := fun args => match args with | [.box [.d (.sl 3 a1), .d (.int .i64 a2)], .d (.sl 9 a3)] => fun k => g ⟨a1, a2⟩ a3 (fun z0 z1 => k (.d (.str z0)) [.box [.d (.sl 3 z1.f_L), .d (.int .i64 z1.f_at)], .undef]) | _ => fun _ => none
noncomputable def code_52 : Code := (Tryz.f52.body).getD .skip
noncomputable def E_z21z (g : C_z21z) : Env A := mkE [(12, SS_z34z g.z34z)] [] [] [] [] [] [] [] [] [0]
theorem sm_z21z (g : C_z21z) : Same (SS_z21z (@z21z_ g)) (abody (E_z21z g) Tryz.f52 code_52 1 [0] [.asis] g.N) := by intro args; unfold SS_z21z; split; exact .inr fun R k => (by kernel_rfl); exact .inl fun R k => rfl
theorem ok_z21z [Fuel] : Ok 52 (SS_z21z (@z21z _)) := okF_of std (.cons ok_z34z .nil) ⟨rfl, rfl, by kernel_rfl, rfl, rfl, rfl⟩ (sm_z21z I_z21z) (cuts0 (fun _ => rfl) (by kernel_rfl)) Tryz.func52 (by kernel_rfl) (by kernel_rfl)
abbrev T_z37z : Type 1 := G_Stream → Int → {R : Type} → (Bool → G_Stream → Option R) → Option R
structure C_z37z where
 N : Nat
 z34z : T_z34z
def z37z_ (g : C_z37z) (a1 : G_Stream) (a2 : Int) {R : Type} (k0 : Bool → G_Stream → Option R) : Option R :=
 (g.z34z a1 a2 (fun r3 r4 => k0 (r3 == 0) r4))
noncomputable def I_z37z [Fuel] : C_z37z := ⟨NN, @z34z _⟩
noncomputable def z37z [Fuel] : T_z37z := @z37z_ I_z37z
def SS_z37z (g : T_z37z) : Spec A := fun args => match args with | [.box [.d (.sl 3 a1), .d (.int .i64 a2)], .d (.int .i64 a3)] => fun k => g ⟨a1, a2⟩ a3 (fun z0 z1 => k (.d (.bool z0)) [.box [.d (.sl 3 z1.f_L), .d (.int .i64 z1.f_at)], .undef]) | _ => fun _ => none
noncomputable def code_10 : Code := (Tryz.f10.body).getD .skip
noncomputable def E_z37z (g : C_z37z) : Env A := mkE [(12, SS_z34z g.z34z)] [] [] [] [] [] [] [] [] [0]
theorem sm_z37z (g : C_z37z) : Same (SS_z37z (@z37z_ g)) (abody (E_z37z g) Tryz.f10 code_10 1 [0] [.asis] g.N) := by intro args; unfold SS_z37z; split; exact .inr fun R k => (by kernel_rfl); exact .inl fun R k => rfl
theorem ok_z37z [Fuel] : Ok 10 (SS_z37z (@z37z _)) := okF_of std (.cons ok_z34z .nil) ⟨rfl, rfl, by kernel_rfl, rfl, rfl, rfl⟩ (sm_z37z I_z37z) (cuts0 (fun _ => rfl) (by kernel_rfl)) Tryz.func10 (by kernel_rfl) (by kernel_rfl)
abbrev T_z63z : Type 1 := G_Stream → {R : Type} → (List UInt8 → G_Stream → Option R) → Option R
structure C_z63z where
 N : Nat
 z37z : T_z37z
 z21z : T_z21z
def z63z_ (g : C_z63z) (a1 : G_Stream) {R : Type} (k0 : List UInt8 → G_Stream → Option R) : Option R :=
 (g.z37z a1 60 (fun r2 r3 => (bif r2 then (g.z21z r3 [[], [107, 49], [75, 49, 65, 66], [107, 49, 97, 98, 47], [49, 97], [107, 49, 97, 98, 47, 109, 109, 47, 112]] (fun r4 r5 => k0 r4 r5)) else (g.z21z r3 [[107, 49, 97, 98], [107, 49, 97, 97], [107, 49, 97, 98, 47, 52], [111, 104, 50, 97, 98, 99], [111, 104, 50, 97, 98, 100], [119, 49, 97, 119], [110, 49, 109, 109], [103, 51, 120, 121, 122, 47, 112]] (fun r6 r7 => k0 r6 r7)))))
noncomputable def I_z63z [Fuel] : C_z63z := ⟨NN, @z37z _, @z21z _⟩
noncomputable def z63z [Fuel] : T_z63z := @z63z_ I_z63z
def SS_z63z (g : T_z63z) : Spec A := fun args => match args with | [.box [.d (.sl 3 a1), .d (.int .i64 a2)]] => fun k => g ⟨a1, a2⟩ (fun z0 z1 => k (.d (.str z0)) [.box [.d (.sl 3 z1.f_L), .d (.int .i64 z1.f_at)]]) | _ => fun _ => none
noncomputable def code_71 : Code := (Tryz.f71.body).getD .skip
noncomputable def E_z63z (g : C_z63z) : Env A := mkE [(10, SS_z37z g.z37z), (52, SS_z21z g.z21z)] [(6, [1]), (9, [2])] [] [] [] [] [] [] [] [0]
theorem sm_z63z (g : C_z63z) : Same (SS_z63z (@z63z_ g)) (abody (E_z63z g) Tryz.f71 code_71 3 [0] [.asis] g.N) := by intro args; unfold SS_z63z; split; exact .inr fun R k => (by kernel_rfl); exact .inl fun R k => rfl
theorem ok_z63z [Fuel] : Ok 71 (SS_z63z (@z63z _)) := okF_of std (.cons ok_z37z (.cons ok_z21z .nil)) ⟨rfl, rfl, by kernel_rfl, rfl, rfl, rfl⟩ (sm_z63z I_z63z) (cuts0 (fun _ => rfl) (by kernel_rfl)) Tryz.func71 (by kernel_rfl) (by kernel_rfl)
abbrev T_Stream_Odd : Type 1 := G_Stream → Int → Int → {R : Type} → (Int → G_Stream → Option R) → Option R
structure C_Stream_Odd where
 N : Nat
 z39z : T_z39z
 z37z : T_z37z
 z44z : T_z44z
def Stream_Odd_ (g : C_Stream_Odd) (a1 : G_Stream) (a2 a3 : Int) {R : Type} (k0 : Int → G_Stream → Option R) : Option R :=
 (g.z37z a1 12 (fun r4 r5 => (bif r4 then (g.z44z r5 [(w64 (a2 - 1)), (w64 (a3 + 1)), a2, a3, (-1099511627776), 1099511627776] (fun r6 r7 => k0 r6 r7)) else (g.z39z r5 a2 a3 (fun r8 r9 => k0 r8 r9)))))
noncomputable def I_Stream_Odd [Fuel] : C_Stream_Odd := ⟨NN, @z39z _, @z37z _, @z44z _⟩
noncomputable def Stream_Odd [Fuel] : T_Stream_Odd := @Stream_Odd_ I_Stream_Odd
def SS_Stream_Odd (g : T_Stream_Odd) : Spec A := fun args => match args with | [.box [.d (.sl 3 a1), .d (.int .i64 a2)], .d (.int .i64 a3), .d (.int .i64 a4)] => fun k => g ⟨a1, a2⟩ a3 a4 (fun z0 z1 => k (.d (.int .i64 z0)) [.box [.d (.sl 3 z1.f_L), .d (.int .i64 z1.f_at)], .undef, .undef]) | _ => fun _ => none
noncomputable def code_53 : Code := (Tryz.f53.body).getD .skip
noncomputable def E_Stream_Odd (g : C_Stream_Odd) : Env A := mkE [(8, SS_z39z g.z39z), (10, SS_z37z g.z37z), (39, SS_z44z g.z44z)] [(16, [1])] [] [] [] [] [] [] [] [0]
theorem sm_Stream_Odd (g : C_Stream_Odd) : Same (SS_Stream_Odd (@Stream_Odd_ g)) (abody (E_Stream_Odd g) Tryz.f53 code_53 2 [0] [.asis] g.N) := by intro args; unfold SS_Stream_Odd; split; exact .inr fun R k => (by kernel_rfl); exact .inl fun R k => rfl
theorem ok_Stream_Odd [Fuel] : Ok 53 (SS_Stream_Odd (@Stream_Odd _)) := okF_of std (.cons ok_z39z (.cons ok_z37z (.cons ok_z44z .nil))) ⟨rfl, rfl, by kernel_rfl, rfl, rfl, rfl⟩ (sm_Stream_Odd I_Stream_Odd) (cuts0 (fun _ => rfl) (by kernel_rfl)) Tryz.func53 (by kernel_rfl) (by kernel_rfl)
abbrev T_z45z : Type 1 := G_Stream → Int → {R : Type} → (G_Contact → G_Stream → Option R) → Option R
structure C_z45z where
 N : Nat
 z37z : T_z37z
 z34z : T_z34z
 z44z : T_z44z
 z21z : T_z21z
 Stream_Odd : T_Stream_Odd
 z63z : T_z63z
def z45z_ (g : C_z45z) (a1 : G_Stream) (a2 : Int) {R : Type} (k0 : G_Contact → G_Stream → Option R) : Option R :=
 (g.z44z a1 [1, 1, 2, 3] (fun r3 r4 => (g.z21z r4 [[98, 50, 48], [98, 50, 48], [98, 52, 48]] (fun r5 r6 => (g.z63z r6 (fun r7 r8 => (g.z44z r8 [0, 1, 2, 3, 4, 5, 6, 7] (fun r9 r10 => (g.z44z r10 [0, 1, 2, 9] (fun r11 r12 => (g.z21z r12 [[], [], [102, 105, 110]] (fun r13 r14 => (g.z21z r14 [[], [], [117, 115, 97]] (fun r15 r16 => (g.z37z r16 100 (fun r17 r18 => (bif r17 then (g.z34z r18 4 (fun r19 r20 => (bif (r19 == 0) then (g.Stream_Odd r20 0 500 (fun r21 r22 => (g.Stream_Odd r22 1 3 (fun r23 r24 => k0 (⟨r21, r23, r5, r7, r9, r11, r13, r15⟩ : G_Contact) r24)))) else (bif (r19 == 1) then (g.z21z r20 [[], [66], [98, 50, 48]] (fun r25 r26 => k0 (⟨a2, r3, r25, r7, r9, r11, r13, r15⟩ : G_Contact) r26)) else (bif (r19 == 2) then (g.Stream_Odd r20 0 99999 (fun r27 r28 => (g.Stream_Odd r28 0 99999 (fun r29 r30 => k0 (⟨a2, r3, r5, r7, r27, r29, r13, r15⟩ : G_Contact) r30)))) else (g.z21z r20 [[], [65]] (fun r31 r32 => (g.z21z r32 [[49], [117, 115, 97]] (fun r33 r34 => k0 (⟨a2, r3, r5, r7, r9, r11, r31, r33⟩ : G_Contact) r34))))))))) else k0 (⟨a2, r3, r5, r7, r9, r11, r13, r15⟩ : G_Contact) r18)))))))))))))))))
noncomputable def I_z45z [Fuel] : C_z45z := ⟨NN, @z37z _, @z34z _, @z44z _, @z21z _, @Stream_Odd _, @z63z _⟩
noncomputable def z45z [Fuel] : T_z45z := @z45z_ I_z45z
def SS_z45z (g : T_z45z) : Spec A := fun args => match args with | [.box [.d (.sl 3 a1), .d (.int .i64 a2)], .d (.int .i64 a3)] => fun k => g ⟨a1, a2⟩ a3 (fun z0 z1 => k (.agg [.d (.int .i64 z0.f_At), .d (.int .i64 z0.f_Mode), .d (.str z0.f_Band), .d (.str z0.f_Call), .d (.int .i64 z0.f_Sent), .d (.int .i64 z0.f_Heard), .d (.str z0.f_Gave), .d (.str z0.f_Got)]) [.box [.d (.sl 3 z1.f_L), .d (.int .i64 z1.f_at)], .undef]) | _ => fun _ => none
noncomputable def code_26 : Code := (Tryz.f26.body).getD .skip
noncomputable def E_z45z (g : C_z45z) : Env A := mkE [(10, SS_z37z g.z37z), (12, SS_z34z g.z34z), (39, SS_z44z g.z44z), (52, SS_z21z g.z21z), (53, SS_Stream_Odd g.Stream_Odd), (71, SS_z63z g.z63z)] [(4, [1]), (5, [8]), (8, [2]), (11, [3]), (16, [4]), (19, [5]), (22, [6]), (25, [7]), (33, [10]), (36, [11]), (51, [9])] [] [] [] [] [] [] [] [0]
theorem sm_z45z (g : C_z45z) : Same (SS_z45z (@z45z_ g)) (abody (E_z45z g) Tryz.f26 code_26 12 [0] [.asis] g.N) := by intro args; unfold SS_z45z; split; exact .inr fun R k => (by kernel_rfl); exact .inl fun R k => rfl
theorem ok_z45z [Fuel] : Ok 26 (SS_z45z (@z45z _)) := okF_of std (.cons ok_z37z (.cons ok_z34z (.cons ok_z44z (.cons ok_z21z (.cons ok_Stream_Odd (.cons ok_z63z .nil)))))) ⟨rfl, rfl, by kernel_rfl, rfl, rfl, rfl⟩ (sm_z45z I_z45z) (cuts0 (fun _ => rfl) (by kernel_rfl)) Tryz.func26 (by kernel_rfl) (by kernel_rfl)
abbrev T_Q_sign : Type 1 := Int → {R : Type} → (Int → Option R) → Option R
def Q_sign_ (g : Nat) (a1 : Int) {R : Type} (k0 : Int → Option R) : Option R :=
 (bif (decide (a1 < 0)) then k0 (-1) else (bif (decide (a1 > 0)) then k0 1 else k0 0))
noncomputable def Q_sign [Fuel] : T_Q_sign := @Q_sign_ NN
def SS_Q_sign (g : T_Q_sign) : Spec A := fun args => match args with | [.d (.int .i64 a1)] => fun k => g a1 (fun z0 => k (.d (.int .i64 z0)) [.undef]) | _ => fun _ => none
noncomputable def code_107 : Code := (Tryz.f107.body).getD .skip
noncomputable def E_Q_sign (g : Nat) : Env A := mkE [] [] [] [] [] [] [] [] [] []
theorem sm_Q_sign (g : Nat) : Same (SS_Q_sign (@Q_sign_ g)) (abody (E_Q_sign g) Tryz.f107 code_107 0 [] [.asis] g) := by intro args; unfold SS_Q_sign; split; exact .inr fun R k => (by kernel_rfl); exact .inl fun R k => rfl
theorem ok_Q_sign [Fuel] : Ok 107 (SS_Q_sign (@Q_sign _)) := okF_of std .nil ⟨rfl, rfl, by kernel_rfl, rfl, rfl, rfl⟩ (sm_Q_sign NN) (cuts0 (fun _ => rfl) (by kernel_rfl)) Tryz.func107 (by kernel_rfl) (by kernel_rfl)
noncomputable def Ed_Q_sign (g : Nat) : Env A := mkED [] [] [] [] [] [] [] [] [] []
theorem smd_Q_sign (g : Nat) : Same (SS_Q_sign (@Q_sign_ g)) (abody (Ed_Q_sign g) Tryz.f107 code_107 0 [] [.asis] g) := by intro args; unfold SS_Q_sign; split; exact .inr fun R k => (by kernel_rfl); exact .inl fun R k => rfl
theorem okd_Q_sign [Fuel] : OkD 107 (SS_Q_sign (@Q_sign _)) := okF_of stdD .nil ⟨rfl, rfl, by kernel_rfl, rfl, rfl, rfl⟩ (smd_Q_sign NN) (cuts0 (fun _ => rfl) (by kernel_rfl)) Tryz.func107 (by kernel_rfl) (by kernel_rfl)
abbrev T_strings_Compare : Type 1 := List UInt8 → List UInt8 → {R : Type} → (Int → Option R) → Option R
def strings_Compare [Fuel] : T_strings_Compare := @X_cmp
def SS_strings_Compare (g : T_strings_Compare) : Spec A := SSX_cmp g
theorem ok_strings_Compare [Fuel] : Ok 108 (SS_strings_Compare (@strings_Compare _)) := ⟨ssx_cmp_sound (cmp_sound (Any.strings_Compare Tryz.lays106)), ssx_cmp_nat, enters_of (fn := Tryz.f108) Tryz.func108 (by kernel_rfl) (by kernel_rfl)⟩
theorem okd_strings_Compare [Fuel] : OkD 108 (SS_strings_Compare (@strings_Compare _)) := ⟨ssx_cmp_sound (cmp_sound (Any.strings_Compare Tryz.lays106)), ssx_cmp_nat, enters_of (fn := Tryz.f108) Tryz.func108 (by kernel_rfl) (by kernel_rfl)⟩
abbrev T_z2z : Type 1 := G_Deed → G_Deed → {R : Type} → (Int → Option R) → Option R
structure C_z2z where
 N : Nat
 Q_sign : T_Q_sign
 strings_Compare : T_strings_Compare
def z2z_ (g : C_z2z) (a1 a2 : G_Deed) {R : Type} (k0 : Int → Option R) : Option R :=
 (bif (a1.f_At != a2.f_At) then (g.Q_sign (w64 (a1.f_At - a2.f_At)) (fun r3 => k0 r3)) else (bif (!(a1.f_Site == a2.f_Site)) then (g.strings_Compare a1.f_Site a2.f_Site (fun r4 => k0 r4)) else (g.Q_sign (w64 (a1.f_No - a2.f_No)) (fun r5 => k0 r5))))
noncomputable def I_z2z [Fuel] : C_z2z := ⟨NN, @Q_sign _, @strings_Compare _⟩
noncomputable def z2z [Fuel] : T_z2z := @z2z_ I_z2z
def SS_z2z (g : T_z2z) : Spec A := fun args => match args with | [.agg [.d (.str a1), .d (.int .i64 a2), .d (.int .i64 a3), .d (.int .i64 a4), .d (.int .i64 a5), .d (.int .i64 a6), .d (.str a7), .d (.str a8), .d (.int .i64 a9), .d (.int .i64 a10), .d (.str a11), .d (.str a12), .d (.str a13), .d (.str a14), .d (.int .i64 a15)], .agg [.d (.str a16), .d (.int .i64 a17), .d (.int .i64 a18), .d (.int .i64 a19), .d (.int .i64 a20), .d (.int .i64 a21), .d (.str a22), .d (.str a23), .d (.int .i64 a24), .d (.int .i64 a25), .d (.str a26), .d (.str a27), .d (.str a28), .d (.str a29), .d (.int .i64 a30)]] => fun k => g ⟨a1, a2, a3, a4, ⟨a5, a6, a7, a8, a9, a10, a11, a12⟩, a13, a14, a15⟩ ⟨a16, a17, a18, a19, ⟨a20, a21, a22, a23, a24, a25, a26, a27⟩, a28, a29, a30⟩ (fun z0 => k (.d (.int .i64 z0)) [.undef, .undef]) | _ => fun _ => none
noncomputable def code_55 : Code := (Tryz.f55.body).getD .skip
noncomputable def E_z2z (g : C_z2z) : Env A := mkE [(107, SS_Q_sign g.Q_sign), (108, SS_strings_Compare g.strings_Compare)] [(2, [0]), (3, [1])] [] [] [] [] [] [] [] []
theorem sm_z2z (g : C_z2z) : Same (SS_z2z (@z2z_ g)) (abody (E_z2z g) Tryz.f55 code_55 2 [] [.asis] g.N) := by intro args; unfold SS_z2z; split; exact .inr fun R k => (by kernel_rfl); exact .inl fun R k => rfl
theorem ok_z2z [Fuel] : Ok 55 (SS_z2z (@z2z _)) := okF_of std (.cons ok_Q_sign (.cons ok_strings_Compare .nil)) ⟨rfl, rfl, by kernel_rfl, rfl, rfl, rfl⟩ (sm_z2z I_z2z) (cuts0 (fun _ => rfl) (by kernel_rfl)) Tryz.func55 (by kernel_rfl) (by kernel_rfl)
noncomputable def Ed_z2z (g : C_z2z) : Env A := mkED [(107, SS_Q_sign g.Q_sign), (108, SS_strings_Compare g.strings_Compare)] [(2, [0]), (3, [1])] [] [] [] [] [] [] [] []
theorem smd_z2z (g : C_z2z) : Same (SS_z2z (@z2z_ g)) (abody (Ed_z2z g) Tryz.f55 code_55 2 [] [.asis] g.N) := by intro args; unfold SS_z2z; split; exact .inr fun R k => (by kernel_rfl); exact .inl fun R k => rfl
theorem okd_z2z [Fuel] : OkD 55 (SS_z2z (@z2z _)) := okF_of stdD (.cons okd_Q_sign (.cons okd_strings_Compare .nil)) ⟨rfl, rfl, by kernel_rfl, rfl, rfl, rfl⟩ (smd_z2z I_z2z) (cuts0 (fun _ => rfl) (by kernel_rfl)) Tryz.func55 (by kernel_rfl) (by kernel_rfl)
abbrev T_z1z : Type 1 := List G_Deed → Int → Int → {R : Type} → (List G_Deed → Option R) → Option R
structure C_z1z where
 N : Nat
 z2z : T_z2z
def z1z_L4 (g : C_z1z) : Nat → Int → Int → Int → Int → List G_Deed → {R : Type} → (Int → Int → Int → List G_Deed → Option R) → Option R
 | 0, _, _, _, _, _, _, _ => none
 | n + 1, v31, v32, v33, v34, v35, _, e0 => (bif (decide (v34 > v31)) then (inr v35 v34 (at_ v35 v34 fun x43 => (inr v35 (w64 (v34 - 1)) (at_ v35 (w64 (v34 - 1)) fun x44 => (g.z2z x43 x44 (fun r45 => (bif (decide (r45 < 0)) then (inr v35 (w64 (v34 - 1)) (at_ v35 (w64 (v34 - 1)) fun x46 => (inr v35 v34 (at_ v35 v34 fun x47 => (inr v35 v34 (at_ v35 v34 fun x48 => (inr (set_ v35 v34 x46) (w64 (v34 - 1)) (at_ (set_ v35 v34 x46) (w64 (v34 - 1)) fun x49 => z1z_L4 g n v31 v32 v33 (w64 (v34 - 1)) (set_ (set_ v35 v34 x46) (w64 (v34 - 1)) x47) e0)))))))) else e0 v31 v32 v33 v35))))))) else e0 v31 v32 v33 v35)
def z1z_L1 (g : C_z1z) : Nat → Int → Int → Int → List G_Deed → {R : Type} → (List G_Deed → Option R) → Option R
 | 0, _, _, _, _, _, _ => none
 | n + 1, v4, v5, v6, v7, _, e0 => (bif (decide (v6 < v5)) then (z1z_L4 g g.N v4 v5 v6 v6 v7 (fun e50 e51 e52 e53 => z1z_L1 g n e50 e51 (w64 (e52 + 1)) e53 e0)) else e0 v7)
def z1z_ (g : C_z1z) (a1 : List G_Deed) (a2 a3 : Int) {R : Type} (k0 : List G_Deed → Option R) : Option R :=
 (z1z_L1 g g.N a2 a3 (w64 (a2 + 1)) a1 (fun e54 => k0 e54))
noncomputable def I_z1z [Fuel] : C_z1z := ⟨NN, @z2z _⟩
noncomputable def z1z [Fuel] : T_z1z := @z1z_ I_z1z
def SS_z1z (g : T_z1z) : Spec A := fun args => match args with | [.arr 35 a1, .d (.int .i64 a2), .d (.int .i64 a3), .fn 55 []] => fun k => g a1 a2 a3 (fun z0 => k (.tup []) [.arr 35 z0, .undef, .undef, .fn 55 []]) | _ => fun _ => none
def sh_z1z_L4 : SSt := mkSh 53 1 [(0, .own 35 0), (1, .int .i64), (2, .int .i64), (3, .fn 55 []), (8, .int .i64), (9, .int .i64)] [(0, .row 35)]
def LP_z1z_L4 (g : C_z1z) (n : Nat) : LPT A := fun ps => match ps with | [.d (.int .i64 p1), .d (.int .i64 p2), .d (.int .i64 p3), .d (.int .i64 p4), .d (.sl 35 p5)] => fun K => z1z_L4 g n p1 p2 p3 p4 p5 (fun z0 z1 z2 z3 => K (.exit 2) (mkSt 53 1 [(0, .own 35 0), (1, .d (.int .i64 z0)), (2, .d (.int .i64 z1)), (3, .fn 55 []), (8, .d (.int .i64 z2))] [(0, some (.row 35 z3))])) | _ => fun _ => none
def sh_z1z_L1 : SSt := mkSh 53 1 [(0, .own 35 0), (1, .int .i64), (2, .int .i64), (3, .fn 55 []), (8, .int .i64)] [(0, .row 35)]
def LP_z1z_L1 (g : C_z1z) (n : Nat) : LPT A := fun ps => match ps with | [.d (.int .i64 p1), .d (.int .i64 p2), .d (.int .i64 p3), .d (.sl 35 p4)] => fun K => z1z_L1 g n p1 p2 p3 p4 (fun z0 => K (.exit 0) (mkSt 53 1 [(0, .own 35 0), (3, .fn 55 [])] [(0, some (.row 35 z0))])) | _ => fun _ => none
noncomputable def code_159 : Code := (Tryz.f159.body).getD .skip
noncomputable def E_z1z (g : C_z1z) : Env A := mkE [(55, SS_z2z g.z2z)] [] [(4, ⟨[0, 1, 2, 3, 8, 9], [], [0], [], [], [], []⟩), (1, ⟨[0, 1, 2, 3, 8], [], [0], [], [], [], []⟩)] [(4, ⟨[0, 1, 2, 3, 8], [], [0], [], [], [], []⟩), (1, ⟨[0, 3], [], [0], [], [], [], []⟩)] [(4, pieceOf sh_z1z_L4 (LP_z1z_L4 g g.N)), (1, pieceOf sh_z1z_L1 (LP_z1z_L1 g g.N))] [] [] [] [] [0, 3]
theorem ct_z1z [Fuel] : NatTab (E_z1z I_z1z).C := ct_of (P := Tryz.prog) (T := T) (.cons ok_z2z .nil) (by kernel_rfl)
noncomputable def cb_z1z_L4 : Code := sub [1, 0, 0, 1, 0, 0, 1, 0, 0] code_159
theorem s_z1z_L4 (g : C_z1z) (n : Nat) : StepOk (E_z1z g) g.N cb_z1z_L4 sh_z1z_L4 (LP_z1z_L4 g) n := by intro ps; unfold LP_z1z_L4; split; exact .inr fun R K => (by kernel_rfl); exact .inl fun R K => rfl
theorem lf_z1z_L4 [Fuel] : LoopFine (E_z1z I_z1z) NN cb_z1z_L4 := fine_loop sh_z1z_L4 (LP_z1z_L4 I_z1z) (by kernel_rfl) ct_z1z (cuts0 (fun _ => rfl) (by kernel_rfl)) (fun ps R K => by unfold LP_z1z_L4; split <;> (try unfold z1z_L4) <;> rfl) (s_z1z_L4 I_z1z)
noncomputable def cb_z1z_L1 : Code := sub [1, 0, 0] code_159
theorem s_z1z_L1 (g : C_z1z) (n : Nat) : StepOk (E_z1z g) g.N cb_z1z_L1 sh_z1z_L1 (LP_z1z_L1 g) n := by intro ps; unfold LP_z1z_L1; split; exact .inr fun R K => (by kernel_rfl); exact .inl fun R K => rfl
theorem lf_z1z_L1 [Fuel] : LoopFine (E_z1z I_z1z) NN cb_z1z_L1 := fine_loop sh_z1z_L1 (LP_z1z_L1 I_z1z) (by kernel_rfl) ct_z1z (cutsL (fun _ => rfl) (.cons lf_z1z_L4 .nil) (by kernel_rfl)) (fun ps R K => by unfold LP_z1z_L1; split <;> (try unfold z1z_L1) <;> rfl) (s_z1z_L1 I_z1z)
theorem sm_z1z (g : C_z1z) : Same (SS_z1z (@z1z_ g)) (abody (E_z1z g) Tryz.f159 code_159 1 [0] [] g.N) := by intro args; unfold SS_z1z; split; exact .inr fun R k => (by kernel_rfl); exact .inl fun R k => rfl
theorem ok_z1z [Fuel] : Ok 159 (SS_z1z (@z1z _)) := okF_of std (.cons ok_z2z .nil) ⟨rfl, rfl, by kernel_rfl, rfl, rfl, rfl⟩ (sm_z1z I_z1z) (cutsL (fun _ => rfl) (.cons lf_z1z_L4 (.cons lf_z1z_L1 .nil)) (by kernel_rfl)) Tryz.func159 (by kernel_rfl) (by kernel_rfl)
abbrev T_z0z : Type 1 := List G_Deed → Int → {R : Type} → (List G_Deed → Option R) → Option R
structure C_z0z where
 N : Nat
 z1z : T_z1z
def z0z_L2 (g : C_z0z) : Nat → Int → Int → Int → Int → List G_Deed → {R : Type} → (Int → Int → Int → List G_Deed → Option R) → Option R
 | 0, _, _, _, _, _, _, _ => none
 | n + 1, v3, v4, v5, v6, v7, _, e0 => (bif (decide (v6 ≤ v3)) then (g.z1z v7 v5 v6 (fun r9 => z0z_L2 g n v3 v4 v6 (w64 (v6 + v4)) r9 e0)) else e0 v3 v4 v5 v7)
def z0z_L9 (g : C_z0z) : Nat → Int → Int → Int → Int → List G_Deed → {R : Type} → (Int → Int → Int → List G_Deed → Option R) → Option R
 | 0, _, _, _, _, _, _, _ => none
 | n + 1, v27, v28, v29, v30, v31, _, e0 => (bif (decide (v30 ≤ v27)) then none else e0 v27 v28 v29 v31)
def z0z_L7 (g : C_z0z) : Nat → Int → Int → List G_Deed → {R : Type} → (List G_Deed → Option R) → Option R
 | 0, _, _, _, _, _ => none
 | n + 1, v15, v16, v17, _, e0 => (bif (decide (v16 < v15)) then (z0z_L9 g g.N v15 v16 0 (w64 (2 * v16)) v17 (fun e32 e33 e34 e35 => (bif (decide ((w64 (e34 + e33)) < e32)) then none else z0z_L7 g n e32 (w64 (e33 * 2)) e35 e0))) else e0 v17)
def z0z_ (g : C_z0z) (a1 : List G_Deed) (a2 : Int) {R : Type} (k0 : List G_Deed → Option R) : Option R :=
 (z0z_L2 g g.N a2 20 0 20 a1 (fun e10 e11 e12 e13 => (g.z1z e13 e12 e10 (fun r14 => (z0z_L7 g g.N e10 e11 r14 (fun e36 => k0 e36))))))
noncomputable def I_z0z [Fuel] : C_z0z := ⟨NN, @z1z _⟩
noncomputable def z0z [Fuel] : T_z0z := @z0z_ I_z0z
def SS_z0z (g : T_z0z) : Spec A := fun args => match args with | [.arr 35 a1, .d (.int .i64 a2), .fn 55 []] => fun k => g a1 a2 (fun z0 => k (.tup []) [.arr 35 z0, .undef, .fn 55 []]) | _ => fun _ => none
def sh_z0z_L2 : SSt := mkSh 63 1 [(0, .own 35 0), (1, .int .i64), (2, .fn 55 []), (6, .int .i64), (7, .int .i64), (8, .int .i64)] [(0, .row 35)]
def LP_z0z_L2 (g : C_z0z) (n : Nat) : LPT A := fun ps => match ps with | [.d (.int .i64 p1), .d (.int .i64 p2), .d (.int .i64 p3), .d (.int .i64 p4), .d (.sl 35 p5)] => fun K => z0z_L2 g n p1 p2 p3 p4 p5 (fun z0 z1 z2 z3 => K (.exit 0) (mkSt 63 1 [(0, .own 35 0), (1, .d (.int .i64 z0)), (2, .fn 55 []), (6, .d (.int .i64 z1)), (7, .d (.int .i64 z2))] [(0, some (.row 35 z3))])) | _ => fun _ => none
def sh_z0z_L9 : SSt := mkSh 63 1 [(0, .own 35 0), (1, .int .i64), (2, .fn 55 []), (6, .int .i64), (7, .int .i64), (8, .int .i64)] [(0, .row 35)]
def LP_z0z_L9 (g : C_z0z) (n : Nat) : LPT A := fun ps => match ps with | [.d (.int .i64 p1), .d (.int .i64 p2), .d (.int .i64 p3), .d (.int .i64 p4), .d (.sl 35 p5)] => fun K => z0z_L9 g n p1 p2 p3 p4 p5 (fun z0 z1 z2 z3 => K (.exit 4) (mkSt 63 1 [(0, .own 35 0), (1, .d (.int .i64 z0)), (2, .fn 55 []), (6, .d (.int .i64 z1)), (7, .d (.int .i64 z2))] [(0, some (.row 35 z3))])) | _ => fun _ => none
def sh_z0z_L7 : SSt := mkSh 63 1 [(0, .own 35 0), (1, .int .i64), (2, .fn 55 []), (6, .int .i64)] [(0, .row 35)]
def LP_z0z_L7 (g : C_z0z) (n : Nat) : LPT A := fun ps => match ps with | [.d (.int .i64 p1), .d (.int .i64 p2), .d (.sl 35 p3)] => fun K => z0z_L7 g n p1 p2 p3 (fun z0 => K (.exit 2) (mkSt 63 1 [(0, .own 35 0), (2, .fn 55 [])] [(0, some (.row 35 z0))])) | _ => fun _ => none
noncomputable def code_106 : Code := (Tryz.f106.body).getD .skip
noncomputable def E_z0z (g : C_z0z) : Env A := mkE [(159, SS_z1z g.z1z)] [] [(2, ⟨[0, 1, 2, 6, 7, 8], [], [0], [], [], [], []⟩), (9, ⟨[0, 1, 2, 6, 7, 8], [], [0], [], [], [], []⟩), (7, ⟨[0, 1, 2, 6], [], [0], [], [], [], []⟩)] [(2, ⟨[0, 1, 2, 6, 7], [], [0], [], [], [], []⟩), (9, ⟨[0, 1, 2, 6, 7], [], [0], [], [], [], []⟩), (7, ⟨[0, 2], [], [0], [], [], [], []⟩)] [(2, pieceOf sh_z0z_L2 (LP_z0z_L2 g g.N)), (9, pieceOf sh_z0z_L9 (LP_z0z_L9 g g.N)), (7, pieceOf sh_z0z_L7 (LP_z0z_L7 g g.N))] [] [] [] [(159, 0)] [0, 2]
theorem ct_z0z [Fuel] : NatTab (E_z0z I_z0z).C := ct_of (P := Tryz.prog) (T := T) (.cons ok_z1z .nil) (by kernel_rfl)
noncomputable def cb_z0z_L2 : Code := sub [1, 1, 0, 0, 0] code_106
theorem s_z0z_L2 (g : C_z0z) (n : Nat) : StepOk (E_z0z g) g.N cb_z0z_L2 sh_z0z_L2 (LP_z0z_L2 g) n := by intro ps; unfold LP_z0z_L2; split; exact .inr fun R K => (by kernel_rfl); exact .inl fun R K => rfl
theorem lf_z0z_L2 [Fuel] : LoopFine (E_z0z I_z0z) NN cb_z0z_L2 := fine_loop sh_z0z_L2 (LP_z0z_L2 I_z0z) (by kernel_rfl) ct_z0z (cuts0 (fun _ => rfl) (by kernel_rfl)) (fun ps R K => by unfold LP_z0z_L2; split <;> (try unfold z0z_L2) <;> rfl) (s_z0z_L2 I_z0z)
noncomputable def cb_z0z_L9 : Code := sub [1, 1, 1, 1, 0, 0, 1, 0, 1, 0, 0, 0] code_106
theorem s_z0z_L9 (g : C_z0z) (n : Nat) : StepOk (E_z0z g) g.N cb_z0z_L9 sh_z0z_L9 (LP_z0z_L9 g) n := by intro ps; unfold LP_z0z_L9; split; exact .inr fun R K => (by kernel_rfl); exact .inl fun R K => rfl
theorem lf_z0z_L9 [Fuel] : LoopFine (E_z0z I_z0z) NN cb_z0z_L9 := fine_loop sh_z0z_L9 (LP_z0z_L9 I_z0z) (by kernel_rfl) ct_z0z (cuts0 (fun _ => rfl) (by kernel_rfl)) (fun ps R K => by unfold LP_z0z_L9; split <;> (try unfold z0z_L9) <;> rfl) (s_z0z_L9 I_z0z)
noncomputable def cb_z0z_L7 : Code := sub [1, 1, 1, 1, 0, 0] code_106
theorem s_z0z_L7 (g : C_z0z) (n : Nat) : StepOk (E_z0z g) g.N cb_z0z_L7 sh_z0z_L7 (LP_z0z_L7 g) n := by intro ps; unfold LP_z0z_L7; split; exact .inr fun R K => (by kernel_rfl); exact .inl fun R K => rfl
theorem lf_z0z_L7 [Fuel] : LoopFine (E_z0z I_z0z) NN cb_z0z_L7 := fine_loop sh_z0z_L7 (LP_z0z_L7 I_z0z) (by kernel_rfl) ct_z0z (cutsL (fun _ => rfl) (.cons lf_z0z_L9 .nil) (by kernel_rfl)) (fun ps R K => by unfold LP_z0z_L7; split <;> (try unfold z0z_L7) <;> rfl) (s_z0z_L7 I_z0z)
theorem sm_z0z (g : C_z0z) : Same (SS_z0z (@z0z_ g)) (abody (E_z0z g) Tryz.f106 code_106 1 [0] [] g.N) := by intro args; unfold SS_z0z; split; exact .inr fun R k => (by kernel_rfl); exact .inl fun R k => rfl
theorem ok_z0z [Fuel] : Ok 106 (SS_z0z (@z0z _)) := okF_of std (.cons ok_z1z .nil) ⟨rfl, rfl, by kernel_rfl, rfl, rfl, rfl⟩ (sm_z0z I_z0z) (cutsL (fun _ => rfl) (.cons lf_z0z_L2 (.cons lf_z0z_L9 (.cons lf_z0z_L7 .nil))) (by kernel_rfl)) Tryz.func106 (by kernel_rfl) (by kernel_rfl)
abbrev T_z19z : Type 1 := List G_Deed → {R : Type} → (List G_Deed → Option R) → Option R
structure C_z19z where
 N : Nat
 z0z : T_z0z
def z19z_ (g : C_z19z) (a1 : List G_Deed) {R : Type} (k0 : List G_Deed → Option R) : Option R :=
 (g.z0z a1 (a1.length : Int) (fun r2 => k0 r2))
noncomputable def I_z19z [Fuel] : C_z19z := ⟨NN, @z0z _⟩
noncomputable def z19z [Fuel] : T_z19z := @z19z_ I_z19z
def SS_z19z (g : T_z19z) : Spec A := fun args => match args with | [.arr 35 a1, .fn 55 []] => fun k => g a1 (fun z0 => k (.tup []) [.arr 35 z0, .fn 55 []]) | _ => fun _ => none
noncomputable def code_54 : Code := (Tryz.f54.body).getD .skip
noncomputable def E_z19z (g : C_z19z) : Env A := mkE [(106, SS_z0z g.z0z)] [] [] [] [] [] [] [] [(106, 0)] [0, 1]
theorem sm_z19z (g : C_z19z) : Same (SS_z19z (@z19z_ g)) (abody (E_z19z g) Tryz.f54 code_54 1 [0] [] g.N) := by intro args; unfold SS_z19z; split; exact .inr fun R k => (by kernel_rfl); exact .inl fun R k => rfl
theorem ok_z19z [Fuel] : Ok 54 (SS_z19z (@z19z _)) := okF_of std (.cons ok_z0z .nil) ⟨rfl, rfl, by kernel_rfl, rfl, rfl, rfl⟩ (sm_z19z I_z19z) (cuts0 (fun _ => rfl) (by kernel_rfl)) Tryz.func54 (by kernel_rfl) (by kernel_rfl)
end Go.Am
