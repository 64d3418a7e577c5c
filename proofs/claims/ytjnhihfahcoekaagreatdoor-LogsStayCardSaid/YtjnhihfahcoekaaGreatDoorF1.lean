/- The functions of the program as Lean functions, each shown to be what the code computes, part 1. No condition: lemmas for the claim. -/
import Derived.Test.YtjnhihfahcoekaaGreatDoorF0
import Derived.Test.YtjnhihfahcoekaaGreatDoorFSh
set_option linter.unusedVariables false
set_option maxRecDepth 100000
namespace Go.Am
open Go Go.Proofs
abbrev T_M_Below : Type 1 := Int → Int → {R : Type} → (Int → Option R) → Option R
def M_Below_ (g : Nat) (a1 a2 : Int) {R : Type} (k0 : Int → Option R) : Option R :=
 (bif (decide (a2 < 1)) then k0 0 else (bif (a2 == 0) then none else (bif (decide ((Int.tmod a1 a2) < 0)) then k0 (w64 ((Int.tmod a1 a2) + a2)) else k0 (Int.tmod a1 a2))))
noncomputable def M_Below [Fuel] : T_M_Below := @M_Below_ NN
def SS_M_Below (g : T_M_Below) : Spec A := fun args => match args with | [.d (.int .i64 a1), .d (.int .i64 a2)] => fun k => g a1 a2 (fun z0 => k (.d (.int .i64 z0)) [.undef, .undef]) | _ => fun _ => none
noncomputable def code_46 : Code := (Tryz.f46.body).getD .skip
noncomputable def E_M_Below (g : Nat) : Env A := mkE [] [] [] [] [] [] [] [] [] []
theorem sm_M_Below (g : Nat) : Same (SS_M_Below (@M_Below_ g)) (abody (E_M_Below g) Tryz.f46 code_46 0 [] [.asis] g) := by intro args; unfold SS_M_Below; split; exact .inr fun R k => (by kernel_rfl); exact .inl fun R k => rfl
theorem ok_M_Below [Fuel] : Ok 46 (SS_M_Below (@M_Below _)) := okF_of std .nil ⟨rfl, rfl, by kernel_rfl, rfl, rfl, rfl⟩ (sm_M_Below NN) (cuts0 (fun _ => rfl) (by kernel_rfl)) Tryz.func46 (by kernel_rfl) (by kernel_rfl)
abbrev T_z53z : Type 1 := G_Stream → Int → {R : Type} → (Int → G_Stream → Option R) → Option R
structure C_z53z where
 N : Nat
 M_Below : T_M_Below
def z53z_ (g : C_z53z) (a1 : G_Stream) (a2 : Int) {R : Type} (k0 : Int → G_Stream → Option R) : Option R :=
 (bif ((a1.f_L.length : Int) == 0) then (g.M_Below (w64 ((w64 (a1.f_at + 1)) * 7919)) a2 (fun r3 => k0 r3 (⟨a1.f_L, (w64 (a1.f_at + 1))⟩ : G_Stream))) else (bif ((a1.f_L.length : Int) == 0) then none else (bif ((a1.f_L.length : Int) == 0) then none else (get_ a1.f_L (Int.tmod (w64 ((w64 (a1.f_at + 1)) - 1)) (a1.f_L.length : Int)) fun x4 => (g.M_Below x4 1073741824 (fun r5 => (g.M_Below (w64 (r5 + (w64 ((w64 (Int.tdiv (w64 ((w64 (a1.f_at + 1)) - 1)) (a1.f_L.length : Int))) * (w64 (7919 + (Int.tmod (w64 ((w64 (a1.f_at + 1)) - 1)) (a1.f_L.length : Int)))))))) a2 (fun r6 => k0 r6 (⟨a1.f_L, (w64 (a1.f_at + 1))⟩ : G_Stream)))))))))
noncomputable def I_z53z [Fuel] : C_z53z := ⟨NN, @M_Below _⟩
noncomputable def z53z [Fuel] : T_z53z := @z53z_ I_z53z
def SS_z53z (g : T_z53z) : Spec A := fun args => match args with | [.box [.d (.sl 3 a1), .d (.int .i64 a2)], .d (.int .i64 a3)] => fun k => g ⟨a1, a2⟩ a3 (fun z0 z1 => k (.d (.int .i64 z0)) [.box [.d (.sl 3 z1.f_L), .d (.int .i64 z1.f_at)], .undef]) | _ => fun _ => none
noncomputable def code_20 : Code := (Tryz.f20.body).getD .skip
noncomputable def E_z53z (g : C_z53z) : Env A := mkE [(46, SS_M_Below g.M_Below)] [] [] [] [] [] [] [] [] [0]
theorem sm_z53z (g : C_z53z) : Same (SS_z53z (@z53z_ g)) (abody (E_z53z g) Tryz.f20 code_20 1 [0] [.asis] g.N) := by intro args; unfold SS_z53z; split; exact .inr fun R k => (by kernel_rfl); exact .inl fun R k => rfl
theorem ok_z53z [Fuel] : Ok 20 (SS_z53z (@z53z _)) := okF_of std (.cons ok_M_Below .nil) ⟨rfl, rfl, by kernel_rfl, rfl, rfl, rfl⟩ (sm_z53z I_z53z) (cuts0 (fun _ => rfl) (by kernel_rfl)) Tryz.func20 (by kernel_rfl) (by kernel_rfl)
abbrev T_z58z : Type 1 := G_Stream → List Int → {R : Type} → (Int → G_Stream → Option R) → Option R
structure C_z58z where
 N : Nat
 z53z : T_z53z
def z58z_ (g : C_z58z) (a1 : G_Stream) (a2 : List Int) {R : Type} (k0 : Int → G_Stream → Option R) : Option R :=
 (g.z53z a1 (a2.length : Int) (fun r3 r4 => (get_ a2 r3 fun x5 => k0 x5 r4)))
noncomputable def I_z58z [Fuel] : C_z58z := ⟨NN, @z53z _⟩
noncomputable def z58z [Fuel] : T_z58z := @z58z_ I_z58z
def SS_z58z (g : T_z58z) : Spec A := fun args => match args with | [.box [.d (.sl 3 a1), .d (.int .i64 a2)], .d (.sl 3 a3)] => fun k => g ⟨a1, a2⟩ a3 (fun z0 z1 => k (.d (.int .i64 z0)) [.box [.d (.sl 3 z1.f_L), .d (.int .i64 z1.f_at)], .undef]) | _ => fun _ => none
noncomputable def code_17 : Code := (Tryz.f17.body).getD .skip
noncomputable def E_z58z (g : C_z58z) : Env A := mkE [(20, SS_z53z g.z53z)] [] [] [] [] [] [] [] [] [0]
theorem sm_z58z (g : C_z58z) : Same (SS_z58z (@z58z_ g)) (abody (E_z58z g) Tryz.f17 code_17 1 [0] [.asis] g.N) := by intro args; unfold SS_z58z; split; exact .inr fun R k => (by kernel_rfl); exact .inl fun R k => rfl
theorem ok_z58z [Fuel] : Ok 17 (SS_z58z (@z58z _)) := okF_of std (.cons ok_z53z .nil) ⟨rfl, rfl, by kernel_rfl, rfl, rfl, rfl⟩ (sm_z58z I_z58z) (cuts0 (fun _ => rfl) (by kernel_rfl)) Tryz.func17 (by kernel_rfl) (by kernel_rfl)
abbrev T_z32z : Type 1 := G_Stream → List (List UInt8) → {R : Type} → (List UInt8 → G_Stream → Option R) → Option R
structure C_z32z where
 N : Nat
 z53z : T_z53z
def z32z_ (g : C_z32z) (a1 : G_Stream) (a2 : List (List UInt8)) {R : Type} (k0 : List UInt8 → G_Stream → Option R) : Option R :=
 (g.z53z a1 (a2.length : Int) (fun r3 r4 => (get_ a2 r3 fun x5 => k0 x5 r4)))
noncomputable def I_z32z [Fuel] : C_z32z := ⟨NN, @z53z _⟩
noncomputable def z32z [Fuel] : T_z32z := @z32z_ I_z32z
def SS_z32z (g : T_z32z) : Spec A := fun args => match args with | [.box [.d (.sl 3 a1), .d (.int .i64 a2)], .d (.sl 9 a3)] => fun k => g ⟨a1, a2⟩ a3 (fun z0 z1 => k (.d (.str z0)) [.box [.d (.sl 3 z1.f_L), .d (.int .i64 z1.f_at)], .undef]) | _ => fun _ => none
noncomputable def code_44 : Code := (Tryz.f44.body).getD .skip
noncomputable def E_z32z (g : C_z32z) : Env A := mkE [(20, SS_z53z g.z53z)] [] [] [] [] [] [] [] [] [0]
theorem sm_z32z (g : C_z32z) : Same (SS_z32z (@z32z_ g)) (abody (E_z32z g) Tryz.f44 code_44 1 [0] [.asis] g.N) := by intro args; unfold SS_z32z; split; exact .inr fun R k => (by kernel_rfl); exact .inl fun R k => rfl
theorem ok_z32z [Fuel] : Ok 44 (SS_z32z (@z32z _)) := okF_of std (.cons ok_z53z .nil) ⟨rfl, rfl, by kernel_rfl, rfl, rfl, rfl⟩ (sm_z32z I_z32z) (cuts0 (fun _ => rfl) (by kernel_rfl)) Tryz.func44 (by kernel_rfl) (by kernel_rfl)
abbrev T_z50z : Type 1 := G_Stream → Int → {R : Type} → (Bool → G_Stream → Option R) → Option R
structure C_z50z where
 N : Nat
 z53z : T_z53z
def z50z_ (g : C_z50z) (a1 : G_Stream) (a2 : Int) {R : Type} (k0 : Bool → G_Stream → Option R) : Option R :=
 (g.z53z a1 a2 (fun r3 r4 => k0 (r3 == 0) r4))
noncomputable def I_z50z [Fuel] : C_z50z := ⟨NN, @z53z _⟩
noncomputable def z50z [Fuel] : T_z50z := @z50z_ I_z50z
def SS_z50z (g : T_z50z) : Spec A := fun args => match args with | [.box [.d (.sl 3 a1), .d (.int .i64 a2)], .d (.int .i64 a3)] => fun k => g ⟨a1, a2⟩ a3 (fun z0 z1 => k (.d (.bool z0)) [.box [.d (.sl 3 z1.f_L), .d (.int .i64 z1.f_at)], .undef]) | _ => fun _ => none
noncomputable def code_19 : Code := (Tryz.f19.body).getD .skip
noncomputable def E_z50z (g : C_z50z) : Env A := mkE [(20, SS_z53z g.z53z)] [] [] [] [] [] [] [] [] [0]
theorem sm_z50z (g : C_z50z) : Same (SS_z50z (@z50z_ g)) (abody (E_z50z g) Tryz.f19 code_19 1 [0] [.asis] g.N) := by intro args; unfold SS_z50z; split; exact .inr fun R k => (by kernel_rfl); exact .inl fun R k => rfl
theorem ok_z50z [Fuel] : Ok 19 (SS_z50z (@z50z _)) := okF_of std (.cons ok_z53z .nil) ⟨rfl, rfl, by kernel_rfl, rfl, rfl, rfl⟩ (sm_z50z I_z50z) (cuts0 (fun _ => rfl) (by kernel_rfl)) Tryz.func19 (by kernel_rfl) (by kernel_rfl)
abbrev T_z76z : Type 1 := G_Stream → {R : Type} → (List UInt8 → G_Stream → Option R) → Option R
structure C_z76z where
 N : Nat
 z50z : T_z50z
 z32z : T_z32z
def z76z_ (g : C_z76z) (a1 : G_Stream) {R : Type} (k0 : List UInt8 → G_Stream → Option R) : Option R :=
 (g.z50z a1 60 (fun r2 r3 => (bif r2 then (g.z32z r3 [[], [107, 49], [75, 49, 65, 66], [107, 49, 97, 98, 47], [49, 97], [107, 49, 97, 98, 47, 109, 109, 47, 112]] (fun r4 r5 => k0 r4 r5)) else (g.z32z r3 [[107, 49, 97, 98], [107, 49, 97, 97], [107, 49, 97, 98, 47, 52], [111, 104, 50, 97, 98, 99], [111, 104, 50, 97, 98, 100], [119, 49, 97, 119], [110, 49, 109, 109], [103, 51, 120, 121, 122, 47, 112]] (fun r6 r7 => k0 r6 r7)))))
noncomputable def I_z76z [Fuel] : C_z76z := ⟨NN, @z50z _, @z32z _⟩
noncomputable def z76z [Fuel] : T_z76z := @z76z_ I_z76z
def SS_z76z (g : T_z76z) : Spec A := fun args => match args with | [.box [.d (.sl 3 a1), .d (.int .i64 a2)]] => fun k => g ⟨a1, a2⟩ (fun z0 z1 => k (.d (.str z0)) [.box [.d (.sl 3 z1.f_L), .d (.int .i64 z1.f_at)]]) | _ => fun _ => none
noncomputable def code_45 : Code := (Tryz.f45.body).getD .skip
noncomputable def E_z76z (g : C_z76z) : Env A := mkE [(19, SS_z50z g.z50z), (44, SS_z32z g.z32z)] [(6, [1]), (9, [2])] [] [] [] [] [] [] [] [0]
theorem sm_z76z (g : C_z76z) : Same (SS_z76z (@z76z_ g)) (abody (E_z76z g) Tryz.f45 code_45 3 [0] [.asis] g.N) := by intro args; unfold SS_z76z; split; exact .inr fun R k => (by kernel_rfl); exact .inl fun R k => rfl
theorem ok_z76z [Fuel] : Ok 45 (SS_z76z (@z76z _)) := okF_of std (.cons ok_z50z (.cons ok_z32z .nil)) ⟨rfl, rfl, by kernel_rfl, rfl, rfl, rfl⟩ (sm_z76z I_z76z) (cuts0 (fun _ => rfl) (by kernel_rfl)) Tryz.func45 (by kernel_rfl) (by kernel_rfl)
abbrev T_z64z : Type 1 := G_Stream → Int → Int → {R : Type} → (Int → G_Stream → Option R) → Option R
structure C_z64z where
 N : Nat
 z53z : T_z53z
def z64z_ (g : C_z64z) (a1 : G_Stream) (a2 a3 : Int) {R : Type} (k0 : Int → G_Stream → Option R) : Option R :=
 (bif (decide (a3 < a2)) then k0 a2 a1 else (g.z53z a1 (w64 ((w64 (a3 - a2)) + 1)) (fun r4 r5 => k0 (w64 (a2 + r4)) r5)))
noncomputable def I_z64z [Fuel] : C_z64z := ⟨NN, @z53z _⟩
noncomputable def z64z [Fuel] : T_z64z := @z64z_ I_z64z
def SS_z64z (g : T_z64z) : Spec A := fun args => match args with | [.box [.d (.sl 3 a1), .d (.int .i64 a2)], .d (.int .i64 a3), .d (.int .i64 a4)] => fun k => g ⟨a1, a2⟩ a3 a4 (fun z0 z1 => k (.d (.int .i64 z0)) [.box [.d (.sl 3 z1.f_L), .d (.int .i64 z1.f_at)], .undef, .undef]) | _ => fun _ => none
noncomputable def code_16 : Code := (Tryz.f16.body).getD .skip
noncomputable def E_z64z (g : C_z64z) : Env A := mkE [(20, SS_z53z g.z53z)] [] [] [] [] [] [] [] [] [0]
theorem sm_z64z (g : C_z64z) : Same (SS_z64z (@z64z_ g)) (abody (E_z64z g) Tryz.f16 code_16 1 [0] [.asis] g.N) := by intro args; unfold SS_z64z; split; exact .inr fun R k => (by kernel_rfl); exact .inl fun R k => rfl
theorem ok_z64z [Fuel] : Ok 16 (SS_z64z (@z64z _)) := okF_of std (.cons ok_z53z .nil) ⟨rfl, rfl, by kernel_rfl, rfl, rfl, rfl⟩ (sm_z64z I_z64z) (cuts0 (fun _ => rfl) (by kernel_rfl)) Tryz.func16 (by kernel_rfl) (by kernel_rfl)
abbrev T_Stream_Odd : Type 1 := G_Stream → Int → Int → {R : Type} → (Int → G_Stream → Option R) → Option R
structure C_Stream_Odd where
 N : Nat
 z64z : T_z64z
 z58z : T_z58z
 z50z : T_z50z
def Stream_Odd_ (g : C_Stream_Odd) (a1 : G_Stream) (a2 a3 : Int) {R : Type} (k0 : Int → G_Stream → Option R) : Option R :=
 (g.z50z a1 12 (fun r4 r5 => (bif r4 then (g.z58z r5 [(w64 (a2 - 1)), (w64 (a3 + 1)), a2, a3, (-1099511627776), 1099511627776] (fun r6 r7 => k0 r6 r7)) else (g.z64z r5 a2 a3 (fun r8 r9 => k0 r8 r9)))))
noncomputable def I_Stream_Odd [Fuel] : C_Stream_Odd := ⟨NN, @z64z _, @z58z _, @z50z _⟩
noncomputable def Stream_Odd [Fuel] : T_Stream_Odd := @Stream_Odd_ I_Stream_Odd
def SS_Stream_Odd (g : T_Stream_Odd) : Spec A := fun args => match args with | [.box [.d (.sl 3 a1), .d (.int .i64 a2)], .d (.int .i64 a3), .d (.int .i64 a4)] => fun k => g ⟨a1, a2⟩ a3 a4 (fun z0 z1 => k (.d (.int .i64 z0)) [.box [.d (.sl 3 z1.f_L), .d (.int .i64 z1.f_at)], .undef, .undef]) | _ => fun _ => none
noncomputable def code_21 : Code := (Tryz.f21.body).getD .skip
noncomputable def E_Stream_Odd (g : C_Stream_Odd) : Env A := mkE [(16, SS_z64z g.z64z), (17, SS_z58z g.z58z), (19, SS_z50z g.z50z)] [(16, [1])] [] [] [] [] [] [] [] [0]
theorem sm_Stream_Odd (g : C_Stream_Odd) : Same (SS_Stream_Odd (@Stream_Odd_ g)) (abody (E_Stream_Odd g) Tryz.f21 code_21 2 [0] [.asis] g.N) := by intro args; unfold SS_Stream_Odd; split; exact .inr fun R k => (by kernel_rfl); exact .inl fun R k => rfl
theorem ok_Stream_Odd [Fuel] : Ok 21 (SS_Stream_Odd (@Stream_Odd _)) := okF_of std (.cons ok_z64z (.cons ok_z58z (.cons ok_z50z .nil))) ⟨rfl, rfl, by kernel_rfl, rfl, rfl, rfl⟩ (sm_Stream_Odd I_Stream_Odd) (cuts0 (fun _ => rfl) (by kernel_rfl)) Tryz.func21 (by kernel_rfl) (by kernel_rfl)
abbrev T_z48z : Type 1 := G_Stream → Int → {R : Type} → (G_Contact → G_Stream → Option R) → Option R
structure C_z48z where
 N : Nat
 z58z : T_z58z
 z50z : T_z50z
 z53z : T_z53z
 Stream_Odd : T_Stream_Odd
 z32z : T_z32z
 z76z : T_z76z
def z48z_ (g : C_z48z) (a1 : G_Stream) (a2 : Int) {R : Type} (k0 : G_Contact → G_Stream → Option R) : Option R :=
 (g.z58z a1 [1, 1, 2, 3] (fun r3 r4 => (g.z32z r4 [[98, 50, 48], [98, 50, 48], [98, 52, 48]] (fun r5 r6 => (g.z76z r6 (fun r7 r8 => (g.z58z r8 [0, 1, 2, 3, 4, 5, 6, 7] (fun r9 r10 => (g.z58z r10 [0, 1, 2, 9] (fun r11 r12 => (g.z32z r12 [[], [], [102, 105, 110]] (fun r13 r14 => (g.z32z r14 [[], [], [117, 115, 97]] (fun r15 r16 => (g.z50z r16 100 (fun r17 r18 => (bif r17 then (g.z53z r18 4 (fun r19 r20 => (bif (r19 == 0) then (g.Stream_Odd r20 0 500 (fun r21 r22 => (g.Stream_Odd r22 1 3 (fun r23 r24 => k0 (⟨r21, r23, r5, r7, r9, r11, r13, r15⟩ : G_Contact) r24)))) else (bif (r19 == 1) then (g.z32z r20 [[], [66], [98, 50, 48]] (fun r25 r26 => k0 (⟨a2, r3, r25, r7, r9, r11, r13, r15⟩ : G_Contact) r26)) else (bif (r19 == 2) then (g.Stream_Odd r20 0 99999 (fun r27 r28 => (g.Stream_Odd r28 0 99999 (fun r29 r30 => k0 (⟨a2, r3, r5, r7, r27, r29, r13, r15⟩ : G_Contact) r30)))) else (g.z32z r20 [[], [65]] (fun r31 r32 => (g.z32z r32 [[49], [117, 115, 97]] (fun r33 r34 => k0 (⟨a2, r3, r5, r7, r9, r11, r31, r33⟩ : G_Contact) r34))))))))) else k0 (⟨a2, r3, r5, r7, r9, r11, r13, r15⟩ : G_Contact) r18)))))))))))))))))
noncomputable def I_z48z [Fuel] : C_z48z := ⟨NN, @z58z _, @z50z _, @z53z _, @Stream_Odd _, @z32z _, @z76z _⟩
noncomputable def z48z [Fuel] : T_z48z := @z48z_ I_z48z
def SS_z48z (g : T_z48z) : Spec A := fun args => match args with | [.box [.d (.sl 3 a1), .d (.int .i64 a2)], .d (.int .i64 a3)] => fun k => g ⟨a1, a2⟩ a3 (fun z0 z1 => k (.agg [.d (.int .i64 z0.f_At), .d (.int .i64 z0.f_Mode), .d (.str z0.f_Band), .d (.str z0.f_Call), .d (.int .i64 z0.f_Sent), .d (.int .i64 z0.f_Heard), .d (.str z0.f_Gave), .d (.str z0.f_Got)]) [.box [.d (.sl 3 z1.f_L), .d (.int .i64 z1.f_at)], .undef]) | _ => fun _ => none
noncomputable def code_18 : Code := (Tryz.f18.body).getD .skip
noncomputable def E_z48z (g : C_z48z) : Env A := mkE [(17, SS_z58z g.z58z), (19, SS_z50z g.z50z), (20, SS_z53z g.z53z), (21, SS_Stream_Odd g.Stream_Odd), (44, SS_z32z g.z32z), (45, SS_z76z g.z76z)] [(4, [1]), (5, [8]), (8, [2]), (11, [3]), (16, [4]), (19, [5]), (22, [6]), (25, [7]), (33, [10]), (36, [11]), (51, [9])] [] [] [] [] [] [] [] [0]
theorem sm_z48z (g : C_z48z) : Same (SS_z48z (@z48z_ g)) (abody (E_z48z g) Tryz.f18 code_18 12 [0] [.asis] g.N) := by intro args; unfold SS_z48z; split; exact .inr fun R k => (by kernel_rfl); exact .inl fun R k => rfl
theorem ok_z48z [Fuel] : Ok 18 (SS_z48z (@z48z _)) := okF_of std (.cons ok_z58z (.cons ok_z50z (.cons ok_z53z (.cons ok_Stream_Odd (.cons ok_z32z (.cons ok_z76z .nil)))))) ⟨rfl, rfl, by kernel_rfl, rfl, rfl, rfl⟩ (sm_z48z I_z48z) (cuts0 (fun _ => rfl) (by kernel_rfl)) Tryz.func18 (by kernel_rfl) (by kernel_rfl)
abbrev T_Q_sign : Type 1 := Int → {R : Type} → (Int → Option R) → Option R
def Q_sign_ (g : Nat) (a1 : Int) {R : Type} (k0 : Int → Option R) : Option R :=
 (bif (decide (a1 < 0)) then k0 (-1) else (bif (decide (a1 > 0)) then k0 1 else k0 0))
noncomputable def Q_sign [Fuel] : T_Q_sign := @Q_sign_ NN
def SS_Q_sign (g : T_Q_sign) : Spec A := fun args => match args with | [.d (.int .i64 a1)] => fun k => g a1 (fun z0 => k (.d (.int .i64 z0)) [.undef]) | _ => fun _ => none
noncomputable def code_69 : Code := (Tryz.f69.body).getD .skip
noncomputable def E_Q_sign (g : Nat) : Env A := mkE [] [] [] [] [] [] [] [] [] []
theorem sm_Q_sign (g : Nat) : Same (SS_Q_sign (@Q_sign_ g)) (abody (E_Q_sign g) Tryz.f69 code_69 0 [] [.asis] g) := by intro args; unfold SS_Q_sign; split; exact .inr fun R k => (by kernel_rfl); exact .inl fun R k => rfl
theorem ok_Q_sign [Fuel] : Ok 69 (SS_Q_sign (@Q_sign _)) := okF_of std .nil ⟨rfl, rfl, by kernel_rfl, rfl, rfl, rfl⟩ (sm_Q_sign NN) (cuts0 (fun _ => rfl) (by kernel_rfl)) Tryz.func69 (by kernel_rfl) (by kernel_rfl)
abbrev T_strings_Compare : Type 1 := List UInt8 → List UInt8 → {R : Type} → (Int → Option R) → Option R
def strings_Compare [Fuel] : T_strings_Compare := @X_cmp
def SS_strings_Compare (g : T_strings_Compare) : Spec A := SSX_cmp g
theorem ok_strings_Compare [Fuel] : Ok 51 (SS_strings_Compare (@strings_Compare _)) := ⟨ssx_cmp_sound (cmp_sound (Any.strings_Compare Tryz.lays106)), ssx_cmp_nat, enters_of (fn := Tryz.f51) Tryz.func51 (by kernel_rfl) (by kernel_rfl)⟩
theorem okd_strings_Compare [Fuel] : OkD 51 (SS_strings_Compare (@strings_Compare _)) := ⟨ssx_cmp_sound (cmp_sound (Any.strings_Compare Tryz.lays106)), ssx_cmp_nat, enters_of (fn := Tryz.f51) Tryz.func51 (by kernel_rfl) (by kernel_rfl)⟩
abbrev T_z5z : Type 1 := G_Contact → G_Contact → {R : Type} → (Int → Option R) → Option R
structure C_z5z where
 N : Nat
 strings_Compare : T_strings_Compare
 Q_sign : T_Q_sign
def z5z_ (g : C_z5z) (a1 a2 : G_Contact) {R : Type} (k0 : Int → Option R) : Option R :=
 (bif (a1.f_At != a2.f_At) then (g.Q_sign (w64 (a1.f_At - a2.f_At)) (fun r3 => k0 r3)) else (bif (!(a1.f_Call == a2.f_Call)) then (g.strings_Compare a1.f_Call a2.f_Call (fun r4 => k0 r4)) else (bif (!(a1.f_Band == a2.f_Band)) then (g.strings_Compare a1.f_Band a2.f_Band (fun r5 => k0 r5)) else (g.Q_sign (w64 (a1.f_Mode - a2.f_Mode)) (fun r6 => k0 r6)))))
noncomputable def I_z5z [Fuel] : C_z5z := ⟨NN, @strings_Compare _, @Q_sign _⟩
noncomputable def z5z [Fuel] : T_z5z := @z5z_ I_z5z
def SS_z5z (g : T_z5z) : Spec A := fun args => match args with | [.agg [.d (.int .i64 a1), .d (.int .i64 a2), .d (.str a3), .d (.str a4), .d (.int .i64 a5), .d (.int .i64 a6), .d (.str a7), .d (.str a8)], .agg [.d (.int .i64 a9), .d (.int .i64 a10), .d (.str a11), .d (.str a12), .d (.int .i64 a13), .d (.int .i64 a14), .d (.str a15), .d (.str a16)]] => fun k => g ⟨a1, a2, a3, a4, a5, a6, a7, a8⟩ ⟨a9, a10, a11, a12, a13, a14, a15, a16⟩ (fun z0 => k (.d (.int .i64 z0)) [.undef, .undef]) | _ => fun _ => none
noncomputable def code_40 : Code := (Tryz.f40.body).getD .skip
noncomputable def E_z5z (g : C_z5z) : Env A := mkE [(51, SS_strings_Compare g.strings_Compare), (69, SS_Q_sign g.Q_sign)] [(2, [0]), (3, [1])] [] [] [] [] [] [] [] []
theorem sm_z5z (g : C_z5z) : Same (SS_z5z (@z5z_ g)) (abody (E_z5z g) Tryz.f40 code_40 2 [] [.asis] g.N) := by intro args; unfold SS_z5z; split; exact .inr fun R k => (by kernel_rfl); exact .inl fun R k => rfl
theorem ok_z5z [Fuel] : Ok 40 (SS_z5z (@z5z _)) := okF_of std (.cons ok_strings_Compare (.cons ok_Q_sign .nil)) ⟨rfl, rfl, by kernel_rfl, rfl, rfl, rfl⟩ (sm_z5z I_z5z) (cuts0 (fun _ => rfl) (by kernel_rfl)) Tryz.func40 (by kernel_rfl) (by kernel_rfl)
abbrev T_z1z : Type 1 := List G_Contact → Int → Int → {R : Type} → (List G_Contact → Option R) → Option R
structure C_z1z where
 N : Nat
 z5z : T_z5z
def z1z_L4 (g : C_z1z) : Nat → Int → Int → Int → Int → List G_Contact → {R : Type} → (Int → Int → Int → List G_Contact → Option R) → Option R
 | 0, _, _, _, _, _, _, _ => none
 | n + 1, v31, v32, v33, v34, v35, _, e0 => (bif (decide (v34 > v31)) then (inr v35 v34 (at_ v35 v34 fun x43 => (inr v35 (w64 (v34 - 1)) (at_ v35 (w64 (v34 - 1)) fun x44 => (g.z5z x43 x44 (fun r45 => (bif (decide (r45 < 0)) then (inr v35 (w64 (v34 - 1)) (at_ v35 (w64 (v34 - 1)) fun x46 => (inr v35 v34 (at_ v35 v34 fun x47 => (inr v35 v34 (at_ v35 v34 fun x48 => (inr (set_ v35 v34 x46) (w64 (v34 - 1)) (at_ (set_ v35 v34 x46) (w64 (v34 - 1)) fun x49 => z1z_L4 g n v31 v32 v33 (w64 (v34 - 1)) (set_ (set_ v35 v34 x46) (w64 (v34 - 1)) x47) e0)))))))) else e0 v31 v32 v33 v35))))))) else e0 v31 v32 v33 v35)
def z1z_L1 (g : C_z1z) : Nat → Int → Int → Int → List G_Contact → {R : Type} → (List G_Contact → Option R) → Option R
 | 0, _, _, _, _, _, _ => none
 | n + 1, v4, v5, v6, v7, _, e0 => (bif (decide (v6 < v5)) then (z1z_L4 g g.N v4 v5 v6 v6 v7 (fun e50 e51 e52 e53 => z1z_L1 g n e50 e51 (w64 (e52 + 1)) e53 e0)) else e0 v7)
def z1z_ (g : C_z1z) (a1 : List G_Contact) (a2 a3 : Int) {R : Type} (k0 : List G_Contact → Option R) : Option R :=
 (z1z_L1 g g.N a2 a3 (w64 (a2 + 1)) a1 (fun e54 => k0 e54))
noncomputable def I_z1z [Fuel] : C_z1z := ⟨NN, @z5z _⟩
noncomputable def z1z [Fuel] : T_z1z := @z1z_ I_z1z
def SS_z1z (g : T_z1z) : Spec A := fun args => match args with | [.arr 35 a1, .d (.int .i64 a2), .d (.int .i64 a3), .fn 40 []] => fun k => g a1 a2 a3 (fun z0 => k (.tup []) [.arr 35 z0, .undef, .undef, .fn 40 []]) | _ => fun _ => none
def sh_z1z_L4 : SSt := mkSh 53 1 [(0, .own 35 0), (1, .int .i64), (2, .int .i64), (3, .fn 40 []), (8, .int .i64), (9, .int .i64)] [(0, .row 35)]
def LP_z1z_L4 (g : C_z1z) (n : Nat) : LPT A := fun ps => match ps with | [.d (.int .i64 p1), .d (.int .i64 p2), .d (.int .i64 p3), .d (.int .i64 p4), .d (.sl 35 p5)] => fun K => z1z_L4 g n p1 p2 p3 p4 p5 (fun z0 z1 z2 z3 => K (.exit 2) (mkSt 53 1 [(0, .own 35 0), (1, .d (.int .i64 z0)), (2, .d (.int .i64 z1)), (3, .fn 40 []), (8, .d (.int .i64 z2))] [(0, some (.row 35 z3))])) | _ => fun _ => none
def sh_z1z_L1 : SSt := mkSh 53 1 [(0, .own 35 0), (1, .int .i64), (2, .int .i64), (3, .fn 40 []), (8, .int .i64)] [(0, .row 35)]
def LP_z1z_L1 (g : C_z1z) (n : Nat) : LPT A := fun ps => match ps with | [.d (.int .i64 p1), .d (.int .i64 p2), .d (.int .i64 p3), .d (.sl 35 p4)] => fun K => z1z_L1 g n p1 p2 p3 p4 (fun z0 => K (.exit 0) (mkSt 53 1 [(0, .own 35 0), (3, .fn 40 [])] [(0, some (.row 35 z0))])) | _ => fun _ => none
noncomputable def code_74 : Code := (Tryz.f74.body).getD .skip
noncomputable def E_z1z (g : C_z1z) : Env A := mkE [(40, SS_z5z g.z5z)] [] [(4, ⟨[0, 1, 2, 3, 8, 9], [], [0], [], [], []⟩), (1, ⟨[0, 1, 2, 3, 8], [], [0], [], [], []⟩)] [(4, ⟨[0, 1, 2, 3, 8], [], [0], [], [], []⟩), (1, ⟨[0, 3], [], [0], [], [], []⟩)] [(4, pieceOf sh_z1z_L4 (LP_z1z_L4 g g.N)), (1, pieceOf sh_z1z_L1 (LP_z1z_L1 g g.N))] [] [] [] [] [0, 3]
theorem ct_z1z [Fuel] : NatTab (E_z1z I_z1z).C := ct_of (P := Tryz.prog) (T := T) (.cons ok_z5z .nil) (by kernel_rfl)
noncomputable def cb_z1z_L4 : Code := sub [1, 0, 0, 1, 0, 0, 1, 0, 0] code_74
theorem s_z1z_L4 (g : C_z1z) (n : Nat) : StepOk (E_z1z g) g.N cb_z1z_L4 sh_z1z_L4 (LP_z1z_L4 g) n := by intro ps; unfold LP_z1z_L4; split; exact .inr fun R K => (by kernel_rfl); exact .inl fun R K => rfl
theorem lf_z1z_L4 [Fuel] : LoopFine (E_z1z I_z1z) NN cb_z1z_L4 := fine_loop sh_z1z_L4 (LP_z1z_L4 I_z1z) (by kernel_rfl) ct_z1z (cuts0 (fun _ => rfl) (by kernel_rfl)) (fun ps R K => by unfold LP_z1z_L4; split <;> (try unfold z1z_L4) <;> rfl) (s_z1z_L4 I_z1z)
noncomputable def cb_z1z_L1 : Code := sub [1, 0, 0] code_74
theorem s_z1z_L1 (g : C_z1z) (n : Nat) : StepOk (E_z1z g) g.N cb_z1z_L1 sh_z1z_L1 (LP_z1z_L1 g) n := by intro ps; unfold LP_z1z_L1; split; exact .inr fun R K => (by kernel_rfl); exact .inl fun R K => rfl
theorem lf_z1z_L1 [Fuel] : LoopFine (E_z1z I_z1z) NN cb_z1z_L1 := fine_loop sh_z1z_L1 (LP_z1z_L1 I_z1z) (by kernel_rfl) ct_z1z (cutsL (fun _ => rfl) (.cons lf_z1z_L4 .nil) (by kernel_rfl)) (fun ps R K => by unfold LP_z1z_L1; split <;> (try unfold z1z_L1) <;> rfl) (s_z1z_L1 I_z1z)
theorem sm_z1z (g : C_z1z) : Same (SS_z1z (@z1z_ g)) (abody (E_z1z g) Tryz.f74 code_74 1 [0] [] g.N) := by intro args; unfold SS_z1z; split; exact .inr fun R k => (by kernel_rfl); exact .inl fun R k => rfl
theorem ok_z1z [Fuel] : Ok 74 (SS_z1z (@z1z _)) := okF_of std (.cons ok_z5z .nil) ⟨rfl, rfl, by kernel_rfl, rfl, rfl, rfl⟩ (sm_z1z I_z1z) (cutsL (fun _ => rfl) (.cons lf_z1z_L4 (.cons lf_z1z_L1 .nil)) (by kernel_rfl)) Tryz.func74 (by kernel_rfl) (by kernel_rfl)
abbrev T_z0z : Type 1 := List G_Contact → Int → {R : Type} → (List G_Contact → Option R) → Option R
structure C_z0z where
 N : Nat
 z1z : T_z1z
def z0z_L2 (g : C_z0z) : Nat → Int → Int → Int → Int → List G_Contact → {R : Type} → (Int → Int → Int → List G_Contact → Option R) → Option R
 | 0, _, _, _, _, _, _, _ => none
 | n + 1, v3, v4, v5, v6, v7, _, e0 => (bif (decide (v6 ≤ v3)) then (g.z1z v7 v5 v6 (fun r9 => z0z_L2 g n v3 v4 v6 (w64 (v6 + v4)) r9 e0)) else e0 v3 v4 v5 v7)
def z0z_L9 (g : C_z0z) : Nat → Int → Int → Int → Int → List G_Contact → {R : Type} → (Int → Int → Int → List G_Contact → Option R) → Option R
 | 0, _, _, _, _, _, _, _ => none
 | n + 1, v27, v28, v29, v30, v31, _, e0 => (bif (decide (v30 ≤ v27)) then none else e0 v27 v28 v29 v31)
def z0z_L7 (g : C_z0z) : Nat → Int → Int → List G_Contact → {R : Type} → (List G_Contact → Option R) → Option R
 | 0, _, _, _, _, _ => none
 | n + 1, v15, v16, v17, _, e0 => (bif (decide (v16 < v15)) then (z0z_L9 g g.N v15 v16 0 (w64 (2 * v16)) v17 (fun e32 e33 e34 e35 => (bif (decide ((w64 (e34 + e33)) < e32)) then none else z0z_L7 g n e32 (w64 (e33 * 2)) e35 e0))) else e0 v17)
def z0z_ (g : C_z0z) (a1 : List G_Contact) (a2 : Int) {R : Type} (k0 : List G_Contact → Option R) : Option R :=
 (z0z_L2 g g.N a2 20 0 20 a1 (fun e10 e11 e12 e13 => (g.z1z e13 e12 e10 (fun r14 => (z0z_L7 g g.N e10 e11 r14 (fun e36 => k0 e36))))))
noncomputable def I_z0z [Fuel] : C_z0z := ⟨NN, @z1z _⟩
noncomputable def z0z [Fuel] : T_z0z := @z0z_ I_z0z
def SS_z0z (g : T_z0z) : Spec A := fun args => match args with | [.arr 35 a1, .d (.int .i64 a2), .fn 40 []] => fun k => g a1 a2 (fun z0 => k (.tup []) [.arr 35 z0, .undef, .fn 40 []]) | _ => fun _ => none
def sh_z0z_L2 : SSt := mkSh 63 1 [(0, .own 35 0), (1, .int .i64), (2, .fn 40 []), (6, .int .i64), (7, .int .i64), (8, .int .i64)] [(0, .row 35)]
def LP_z0z_L2 (g : C_z0z) (n : Nat) : LPT A := fun ps => match ps with | [.d (.int .i64 p1), .d (.int .i64 p2), .d (.int .i64 p3), .d (.int .i64 p4), .d (.sl 35 p5)] => fun K => z0z_L2 g n p1 p2 p3 p4 p5 (fun z0 z1 z2 z3 => K (.exit 0) (mkSt 63 1 [(0, .own 35 0), (1, .d (.int .i64 z0)), (2, .fn 40 []), (6, .d (.int .i64 z1)), (7, .d (.int .i64 z2))] [(0, some (.row 35 z3))])) | _ => fun _ => none
def sh_z0z_L9 : SSt := mkSh 63 1 [(0, .own 35 0), (1, .int .i64), (2, .fn 40 []), (6, .int .i64), (7, .int .i64), (8, .int .i64)] [(0, .row 35)]
def LP_z0z_L9 (g : C_z0z) (n : Nat) : LPT A := fun ps => match ps with | [.d (.int .i64 p1), .d (.int .i64 p2), .d (.int .i64 p3), .d (.int .i64 p4), .d (.sl 35 p5)] => fun K => z0z_L9 g n p1 p2 p3 p4 p5 (fun z0 z1 z2 z3 => K (.exit 4) (mkSt 63 1 [(0, .own 35 0), (1, .d (.int .i64 z0)), (2, .fn 40 []), (6, .d (.int .i64 z1)), (7, .d (.int .i64 z2))] [(0, some (.row 35 z3))])) | _ => fun _ => none
def sh_z0z_L7 : SSt := mkSh 63 1 [(0, .own 35 0), (1, .int .i64), (2, .fn 40 []), (6, .int .i64)] [(0, .row 35)]
def LP_z0z_L7 (g : C_z0z) (n : Nat) : LPT A := fun ps => match ps with | [.d (.int .i64 p1), .d (.int .i64 p2), .d (.sl 35 p3)] => fun K => z0z_L7 g n p1 p2 p3 (fun z0 => K (.exit 2) (mkSt 63 1 [(0, .own 35 0), (2, .fn 40 [])] [(0, some (.row 35 z0))])) | _ => fun _ => none
noncomputable def code_48 : Code := (Tryz.f48.body).getD .skip
noncomputable def E_z0z (g : C_z0z) : Env A := mkE [(74, SS_z1z g.z1z)] [] [(2, ⟨[0, 1, 2, 6, 7, 8], [], [0], [], [], []⟩), (9, ⟨[0, 1, 2, 6, 7, 8], [], [0], [], [], []⟩), (7, ⟨[0, 1, 2, 6], [], [0], [], [], []⟩)] [(2, ⟨[0, 1, 2, 6, 7], [], [0], [], [], []⟩), (9, ⟨[0, 1, 2, 6, 7], [], [0], [], [], []⟩), (7, ⟨[0, 2], [], [0], [], [], []⟩)] [(2, pieceOf sh_z0z_L2 (LP_z0z_L2 g g.N)), (9, pieceOf sh_z0z_L9 (LP_z0z_L9 g g.N)), (7, pieceOf sh_z0z_L7 (LP_z0z_L7 g g.N))] [] [] [] [(74, 0)] [0, 2]
theorem ct_z0z [Fuel] : NatTab (E_z0z I_z0z).C := ct_of (P := Tryz.prog) (T := T) (.cons ok_z1z .nil) (by kernel_rfl)
noncomputable def cb_z0z_L2 : Code := sub [1, 1, 0, 0, 0] code_48
theorem s_z0z_L2 (g : C_z0z) (n : Nat) : StepOk (E_z0z g) g.N cb_z0z_L2 sh_z0z_L2 (LP_z0z_L2 g) n := by intro ps; unfold LP_z0z_L2; split; exact .inr fun R K => (by kernel_rfl); exact .inl fun R K => rfl
theorem lf_z0z_L2 [Fuel] : LoopFine (E_z0z I_z0z) NN cb_z0z_L2 := fine_loop sh_z0z_L2 (LP_z0z_L2 I_z0z) (by kernel_rfl) ct_z0z (cuts0 (fun _ => rfl) (by kernel_rfl)) (fun ps R K => by unfold LP_z0z_L2; split <;> (try unfold z0z_L2) <;> rfl) (s_z0z_L2 I_z0z)
noncomputable def cb_z0z_L9 : Code := sub [1, 1, 1, 1, 0, 0, 1, 0, 1, 0, 0, 0] code_48
theorem s_z0z_L9 (g : C_z0z) (n : Nat) : StepOk (E_z0z g) g.N cb_z0z_L9 sh_z0z_L9 (LP_z0z_L9 g) n := by intro ps; unfold LP_z0z_L9; split; exact .inr fun R K => (by kernel_rfl); exact .inl fun R K => rfl
theorem lf_z0z_L9 [Fuel] : LoopFine (E_z0z I_z0z) NN cb_z0z_L9 := fine_loop sh_z0z_L9 (LP_z0z_L9 I_z0z) (by kernel_rfl) ct_z0z (cuts0 (fun _ => rfl) (by kernel_rfl)) (fun ps R K => by unfold LP_z0z_L9; split <;> (try unfold z0z_L9) <;> rfl) (s_z0z_L9 I_z0z)
noncomputable def cb_z0z_L7 : Code := sub [1, 1, 1, 1, 0, 0] code_48
theorem s_z0z_L7 (g : C_z0z) (n : Nat) : StepOk (E_z0z g) g.N cb_z0z_L7 sh_z0z_L7 (LP_z0z_L7 g) n := by intro ps; unfold LP_z0z_L7; split; exact .inr fun R K => (by kernel_rfl); exact .inl fun R K => rfl
theorem lf_z0z_L7 [Fuel] : LoopFine (E_z0z I_z0z) NN cb_z0z_L7 := fine_loop sh_z0z_L7 (LP_z0z_L7 I_z0z) (by kernel_rfl) ct_z0z (cutsL (fun _ => rfl) (.cons lf_z0z_L9 .nil) (by kernel_rfl)) (fun ps R K => by unfold LP_z0z_L7; split <;> (try unfold z0z_L7) <;> rfl) (s_z0z_L7 I_z0z)
theorem sm_z0z (g : C_z0z) : Same (SS_z0z (@z0z_ g)) (abody (E_z0z g) Tryz.f48 code_48 1 [0] [] g.N) := by intro args; unfold SS_z0z; split; exact .inr fun R k => (by kernel_rfl); exact .inl fun R k => rfl
theorem ok_z0z [Fuel] : Ok 48 (SS_z0z (@z0z _)) := okF_of std (.cons ok_z1z .nil) ⟨rfl, rfl, by kernel_rfl, rfl, rfl, rfl⟩ (sm_z0z I_z0z) (cutsL (fun _ => rfl) (.cons lf_z0z_L2 (.cons lf_z0z_L9 (.cons lf_z0z_L7 .nil))) (by kernel_rfl)) Tryz.func48 (by kernel_rfl) (by kernel_rfl)
abbrev T_z22z : Type 1 := List G_Contact → {R : Type} → (List G_Contact → Option R) → Option R
structure C_z22z where
 N : Nat
 z0z : T_z0z
def z22z_ (g : C_z22z) (a1 : List G_Contact) {R : Type} (k0 : List G_Contact → Option R) : Option R :=
 (g.z0z a1 (a1.length : Int) (fun r2 => k0 r2))
noncomputable def I_z22z [Fuel] : C_z22z := ⟨NN, @z0z _⟩
noncomputable def z22z [Fuel] : T_z22z := @z22z_ I_z22z
def SS_z22z (g : T_z22z) : Spec A := fun args => match args with | [.arr 35 a1, .fn 40 []] => fun k => g a1 (fun z0 => k (.tup []) [.arr 35 z0, .fn 40 []]) | _ => fun _ => none
noncomputable def code_24 : Code := (Tryz.f24.body).getD .skip
noncomputable def E_z22z (g : C_z22z) : Env A := mkE [(48, SS_z0z g.z0z)] [] [] [] [] [] [] [] [(48, 0)] [0, 1]
theorem sm_z22z (g : C_z22z) : Same (SS_z22z (@z22z_ g)) (abody (E_z22z g) Tryz.f24 code_24 1 [0] [] g.N) := by intro args; unfold SS_z22z; split; exact .inr fun R k => (by kernel_rfl); exact .inl fun R k => rfl
theorem ok_z22z [Fuel] : Ok 24 (SS_z22z (@z22z _)) := okF_of std (.cons ok_z0z .nil) ⟨rfl, rfl, by kernel_rfl, rfl, rfl, rfl⟩ (sm_z22z I_z22z) (cuts0 (fun _ => rfl) (by kernel_rfl)) Tryz.func24 (by kernel_rfl) (by kernel_rfl)
end Go.Am
