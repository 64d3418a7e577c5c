/- The functions of the program as Lean functions, each shown to be what the code computes, part 1. No condition: lemmas for the claim. -/
import Derived.Test.YtoajjnhmofegcaaGreatDoorF0
import Derived.Test.YtoajjnhmofegcaaGreatDoorFSh
set_option linter.unusedVariables false
set_option maxRecDepth 100000
namespace Go.Am
open Go Go.Proofs
abbrev T_M_Below : Type 1 := Int → Int → {R : Type} → (Int → Option R) → Option R
def M_Below_ (g : Nat) (a1 a2 : Int) {R : Type} (k0 : Int → Option R) : Option R :=
 (bif (decide (a2 < 1)) then k0 0 else (bif (a2 == 0) then none else (bif (decide ((Int.tmod a1 a2) < 0)) then k0 (w64 ((Int.tmod a1 a2) + a2)) else k0 (Int.tmod a1 a2))))
noncomputable def M_Below [Fuel] : T_M_Below := @M_Below_ NN
def SS_M_Below (g : T_M_Below) : Spec A := fun args => match args with | [.d (.int .i64 a1), .d (.int .i64 a2)] => fun k => g a1 a2 (fun z0 => k (.d (.int .i64 z0)) [.undef, .undef]) | _ => fun _ => none
noncomputable def code_119 : Code := (Tryz.f119.body).getD .skip
noncomputable def E_M_Below (g : Nat) : Env A := mkE [] [] [] [] [] [] [] [] [] []
theorem sm_M_Below (g : Nat) : Same (SS_M_Below (@M_Below_ g)) (abody (E_M_Below g) Tryz.f119 code_119 0 [] [.asis] g) := by intro args; unfold SS_M_Below; split; exact .inr fun R k => (by kernel_rfl); exact .inl fun R k => rfl
theorem ok_M_Below [Fuel] : Ok 119 (SS_M_Below (@M_Below _)) := okF_of std .nil ⟨rfl, rfl, by kernel_rfl, rfl, rfl, rfl⟩ (sm_M_Below NN) (cuts0 (fun _ => rfl) (by kernel_rfl)) Tryz.func119 (by kernel_rfl) (by kernel_rfl)
abbrev T_Stream_Next : Type 1 := G_Stream → Int → {R : Type} → (Int → G_Stream → Option R) → Option R
structure C_Stream_Next where
 N : Nat
 M_Below : T_M_Below
def Stream_Next_ (g : C_Stream_Next) (a1 : G_Stream) (a2 : Int) {R : Type} (k0 : Int → G_Stream → Option R) : Option R :=
 (bif ((a1.f_L.length : Int) == 0) then (g.M_Below (w64 ((w64 (a1.f_at + 1)) * 7919)) a2 (fun r3 => k0 r3 (⟨a1.f_L, (w64 (a1.f_at + 1))⟩ : G_Stream))) else (bif ((a1.f_L.length : Int) == 0) then none else (bif ((a1.f_L.length : Int) == 0) then none else (get_ a1.f_L (Int.tmod (w64 ((w64 (a1.f_at + 1)) - 1)) (a1.f_L.length : Int)) fun x4 => (g.M_Below x4 1073741824 (fun r5 => (g.M_Below (w64 (r5 + (w64 ((w64 (Int.tdiv (w64 ((w64 (a1.f_at + 1)) - 1)) (a1.f_L.length : Int))) * (w64 (7919 + (Int.tmod (w64 ((w64 (a1.f_at + 1)) - 1)) (a1.f_L.length : Int)))))))) a2 (fun r6 => k0 r6 (⟨a1.f_L, (w64 (a1.f_at + 1))⟩ : G_Stream)))))))))
noncomputable def I_Stream_Next [Fuel] : C_Stream_Next := ⟨NN, @M_Below _⟩
noncomputable def Stream_Next [Fuel] : T_Stream_Next := @Stream_Next_ I_Stream_Next
def SS_Stream_Next (g : T_Stream_Next) : Spec A := fun args => match args with | [.box [.d (.sl 3 a1), .d (.int .i64 a2)], .d (.int .i64 a3)] => fun k => g ⟨a1, a2⟩ a3 (fun z0 z1 => k (.d (.int .i64 z0)) [.box [.d (.sl 3 z1.f_L), .d (.int .i64 z1.f_at)], .undef]) | _ => fun _ => none
noncomputable def code_50 : Code := (Tryz.f50.body).getD .skip
noncomputable def E_Stream_Next (g : C_Stream_Next) : Env A := mkE [(119, SS_M_Below g.M_Below)] [] [] [] [] [] [] [] [] [0]
theorem sm_Stream_Next (g : C_Stream_Next) : Same (SS_Stream_Next (@Stream_Next_ g)) (abody (E_Stream_Next g) Tryz.f50 code_50 1 [0] [.asis] g.N) := by intro args; unfold SS_Stream_Next; split; exact .inr fun R k => (by kernel_rfl); exact .inl fun R k => rfl
theorem ok_Stream_Next [Fuel] : Ok 50 (SS_Stream_Next (@Stream_Next _)) := okF_of std (.cons ok_M_Below .nil) ⟨rfl, rfl, by kernel_rfl, rfl, rfl, rfl⟩ (sm_Stream_Next I_Stream_Next) (cuts0 (fun _ => rfl) (by kernel_rfl)) Tryz.func50 (by kernel_rfl) (by kernel_rfl)
abbrev T_Stream_Range : Type 1 := G_Stream → Int → Int → {R : Type} → (Int → G_Stream → Option R) → Option R
structure C_Stream_Range where
 N : Nat
 Stream_Next : T_Stream_Next
def Stream_Range_ (g : C_Stream_Range) (a1 : G_Stream) (a2 a3 : Int) {R : Type} (k0 : Int → G_Stream → Option R) : Option R :=
 (bif (decide (a3 < a2)) then k0 a2 a1 else (g.Stream_Next a1 (w64 ((w64 (a3 - a2)) + 1)) (fun r4 r5 => k0 (w64 (a2 + r4)) r5)))
noncomputable def I_Stream_Range [Fuel] : C_Stream_Range := ⟨NN, @Stream_Next _⟩
noncomputable def Stream_Range [Fuel] : T_Stream_Range := @Stream_Range_ I_Stream_Range
def SS_Stream_Range (g : T_Stream_Range) : Spec A := fun args => match args with | [.box [.d (.sl 3 a1), .d (.int .i64 a2)], .d (.int .i64 a3), .d (.int .i64 a4)] => fun k => g ⟨a1, a2⟩ a3 a4 (fun z0 z1 => k (.d (.int .i64 z0)) [.box [.d (.sl 3 z1.f_L), .d (.int .i64 z1.f_at)], .undef, .undef]) | _ => fun _ => none
noncomputable def code_8 : Code := (Tryz.f8.body).getD .skip
noncomputable def E_Stream_Range (g : C_Stream_Range) : Env A := mkE [(50, SS_Stream_Next g.Stream_Next)] [] [] [] [] [] [] [] [] [0]
theorem sm_Stream_Range (g : C_Stream_Range) : Same (SS_Stream_Range (@Stream_Range_ g)) (abody (E_Stream_Range g) Tryz.f8 code_8 1 [0] [.asis] g.N) := by intro args; unfold SS_Stream_Range; split; exact .inr fun R k => (by kernel_rfl); exact .inl fun R k => rfl
theorem ok_Stream_Range [Fuel] : Ok 8 (SS_Stream_Range (@Stream_Range _)) := okF_of std (.cons ok_Stream_Next .nil) ⟨rfl, rfl, by kernel_rfl, rfl, rfl, rfl⟩ (sm_Stream_Range I_Stream_Range) (cuts0 (fun _ => rfl) (by kernel_rfl)) Tryz.func8 (by kernel_rfl) (by kernel_rfl)
abbrev T_Stream_Pick : Type 1 := G_Stream → List Int → {R : Type} → (Int → G_Stream → Option R) → Option R
structure C_Stream_Pick where
 N : Nat
 Stream_Next : T_Stream_Next
def Stream_Pick_ (g : C_Stream_Pick) (a1 : G_Stream) (a2 : List Int) {R : Type} (k0 : Int → G_Stream → Option R) : Option R :=
 (g.Stream_Next a1 (a2.length : Int) (fun r3 r4 => (get_ a2 r3 fun x5 => k0 x5 r4)))
noncomputable def I_Stream_Pick [Fuel] : C_Stream_Pick := ⟨NN, @Stream_Next _⟩
noncomputable def Stream_Pick [Fuel] : T_Stream_Pick := @Stream_Pick_ I_Stream_Pick
def SS_Stream_Pick (g : T_Stream_Pick) : Spec A := fun args => match args with | [.box [.d (.sl 3 a1), .d (.int .i64 a2)], .d (.sl 3 a3)] => fun k => g ⟨a1, a2⟩ a3 (fun z0 z1 => k (.d (.int .i64 z0)) [.box [.d (.sl 3 z1.f_L), .d (.int .i64 z1.f_at)], .undef]) | _ => fun _ => none
noncomputable def code_44 : Code := (Tryz.f44.body).getD .skip
noncomputable def E_Stream_Pick (g : C_Stream_Pick) : Env A := mkE [(50, SS_Stream_Next g.Stream_Next)] [] [] [] [] [] [] [] [] [0]
theorem sm_Stream_Pick (g : C_Stream_Pick) : Same (SS_Stream_Pick (@Stream_Pick_ g)) (abody (E_Stream_Pick g) Tryz.f44 code_44 1 [0] [.asis] g.N) := by intro args; unfold SS_Stream_Pick; split; exact .inr fun R k => (by kernel_rfl); exact .inl fun R k => rfl
theorem ok_Stream_Pick [Fuel] : Ok 44 (SS_Stream_Pick (@Stream_Pick _)) := okF_of std (.cons ok_Stream_Next .nil) ⟨rfl, rfl, by kernel_rfl, rfl, rfl, rfl⟩ (sm_Stream_Pick I_Stream_Pick) (cuts0 (fun _ => rfl) (by kernel_rfl)) Tryz.func44 (by kernel_rfl) (by kernel_rfl)
abbrev T_Stream_Flip : Type 1 := G_Stream → Int → {R : Type} → (Bool → G_Stream → Option R) → Option R
structure C_Stream_Flip where
 N : Nat
 Stream_Next : T_Stream_Next
def Stream_Flip_ (g : C_Stream_Flip) (a1 : G_Stream) (a2 : Int) {R : Type} (k0 : Bool → G_Stream → Option R) : Option R :=
 (g.Stream_Next a1 a2 (fun r3 r4 => k0 (r3 == 0) r4))
noncomputable def I_Stream_Flip [Fuel] : C_Stream_Flip := ⟨NN, @Stream_Next _⟩
noncomputable def Stream_Flip [Fuel] : T_Stream_Flip := @Stream_Flip_ I_Stream_Flip
def SS_Stream_Flip (g : T_Stream_Flip) : Spec A := fun args => match args with | [.box [.d (.sl 3 a1), .d (.int .i64 a2)], .d (.int .i64 a3)] => fun k => g ⟨a1, a2⟩ a3 (fun z0 z1 => k (.d (.bool z0)) [.box [.d (.sl 3 z1.f_L), .d (.int .i64 z1.f_at)], .undef]) | _ => fun _ => none
noncomputable def code_71 : Code := (Tryz.f71.body).getD .skip
noncomputable def E_Stream_Flip (g : C_Stream_Flip) : Env A := mkE [(50, SS_Stream_Next g.Stream_Next)] [] [] [] [] [] [] [] [] [0]
theorem sm_Stream_Flip (g : C_Stream_Flip) : Same (SS_Stream_Flip (@Stream_Flip_ g)) (abody (E_Stream_Flip g) Tryz.f71 code_71 1 [0] [.asis] g.N) := by intro args; unfold SS_Stream_Flip; split; exact .inr fun R k => (by kernel_rfl); exact .inl fun R k => rfl
theorem ok_Stream_Flip [Fuel] : Ok 71 (SS_Stream_Flip (@Stream_Flip _)) := okF_of std (.cons ok_Stream_Next .nil) ⟨rfl, rfl, by kernel_rfl, rfl, rfl, rfl⟩ (sm_Stream_Flip I_Stream_Flip) (cuts0 (fun _ => rfl) (by kernel_rfl)) Tryz.func71 (by kernel_rfl) (by kernel_rfl)
abbrev T_Stream_Some : Type 1 := G_Stream → List (List UInt8) → {R : Type} → (List UInt8 → G_Stream → Option R) → Option R
structure C_Stream_Some where
 N : Nat
 Stream_Next : T_Stream_Next
def Stream_Some_ (g : C_Stream_Some) (a1 : G_Stream) (a2 : List (List UInt8)) {R : Type} (k0 : List UInt8 → G_Stream → Option R) : Option R :=
 (g.Stream_Next a1 (a2.length : Int) (fun r3 r4 => (get_ a2 r3 fun x5 => k0 x5 r4)))
noncomputable def I_Stream_Some [Fuel] : C_Stream_Some := ⟨NN, @Stream_Next _⟩
noncomputable def Stream_Some [Fuel] : T_Stream_Some := @Stream_Some_ I_Stream_Some
def SS_Stream_Some (g : T_Stream_Some) : Spec A := fun args => match args with | [.box [.d (.sl 3 a1), .d (.int .i64 a2)], .d (.sl 9 a3)] => fun k => g ⟨a1, a2⟩ a3 (fun z0 z1 => k (.d (.str z0)) [.box [.d (.sl 3 z1.f_L), .d (.int .i64 z1.f_at)], .undef]) | _ => fun _ => none
noncomputable def code_70 : Code := (Tryz.f70.body).getD .skip
noncomputable def E_Stream_Some (g : C_Stream_Some) : Env A := mkE [(50, SS_Stream_Next g.Stream_Next)] [] [] [] [] [] [] [] [] [0]
theorem sm_Stream_Some (g : C_Stream_Some) : Same (SS_Stream_Some (@Stream_Some_ g)) (abody (E_Stream_Some g) Tryz.f70 code_70 1 [0] [.asis] g.N) := by intro args; unfold SS_Stream_Some; split; exact .inr fun R k => (by kernel_rfl); exact .inl fun R k => rfl
theorem ok_Stream_Some [Fuel] : Ok 70 (SS_Stream_Some (@Stream_Some _)) := okF_of std (.cons ok_Stream_Next .nil) ⟨rfl, rfl, by kernel_rfl, rfl, rfl, rfl⟩ (sm_Stream_Some I_Stream_Some) (cuts0 (fun _ => rfl) (by kernel_rfl)) Tryz.func70 (by kernel_rfl) (by kernel_rfl)
abbrev T_Stream_ACall : Type 1 := G_Stream → {R : Type} → (List UInt8 → G_Stream → Option R) → Option R
structure C_Stream_ACall where
 N : Nat
 Stream_Some : T_Stream_Some
 Stream_Flip : T_Stream_Flip
def Stream_ACall_ (g : C_Stream_ACall) (a1 : G_Stream) {R : Type} (k0 : List UInt8 → G_Stream → Option R) : Option R :=
 (g.Stream_Flip a1 60 (fun r2 r3 => (bif r2 then (g.Stream_Some r3 [[], [107, 49], [75, 49, 65, 66], [107, 49, 97, 98, 47], [49, 97], [107, 49, 97, 98, 47, 109, 109, 47, 112]] (fun r4 r5 => k0 r4 r5)) else (g.Stream_Some r3 [[107, 49, 97, 98], [107, 49, 97, 97], [107, 49, 97, 98, 47, 52], [111, 104, 50, 97, 98, 99], [111, 104, 50, 97, 98, 100], [119, 49, 97, 119], [110, 49, 109, 109], [103, 51, 120, 121, 122, 47, 112]] (fun r6 r7 => k0 r6 r7)))))
noncomputable def I_Stream_ACall [Fuel] : C_Stream_ACall := ⟨NN, @Stream_Some _, @Stream_Flip _⟩
noncomputable def Stream_ACall [Fuel] : T_Stream_ACall := @Stream_ACall_ I_Stream_ACall
def SS_Stream_ACall (g : T_Stream_ACall) : Spec A := fun args => match args with | [.box [.d (.sl 3 a1), .d (.int .i64 a2)]] => fun k => g ⟨a1, a2⟩ (fun z0 z1 => k (.d (.str z0)) [.box [.d (.sl 3 z1.f_L), .d (.int .i64 z1.f_at)]]) | _ => fun _ => none
noncomputable def code_69 : Code := (Tryz.f69.body).getD .skip
noncomputable def E_Stream_ACall (g : C_Stream_ACall) : Env A := mkE [(70, SS_Stream_Some g.Stream_Some), (71, SS_Stream_Flip g.Stream_Flip)] [(6, [1]), (9, [2])] [] [] [] [] [] [] [] [0]
theorem sm_Stream_ACall (g : C_Stream_ACall) : Same (SS_Stream_ACall (@Stream_ACall_ g)) (abody (E_Stream_ACall g) Tryz.f69 code_69 3 [0] [.asis] g.N) := by intro args; unfold SS_Stream_ACall; split; exact .inr fun R k => (by kernel_rfl); exact .inl fun R k => rfl
theorem ok_Stream_ACall [Fuel] : Ok 69 (SS_Stream_ACall (@Stream_ACall _)) := okF_of std (.cons ok_Stream_Some (.cons ok_Stream_Flip .nil)) ⟨rfl, rfl, by kernel_rfl, rfl, rfl, rfl⟩ (sm_Stream_ACall I_Stream_ACall) (cuts0 (fun _ => rfl) (by kernel_rfl)) Tryz.func69 (by kernel_rfl) (by kernel_rfl)
abbrev T_Stream_Odd : Type 1 := G_Stream → Int → Int → {R : Type} → (Int → G_Stream → Option R) → Option R
structure C_Stream_Odd where
 N : Nat
 Stream_Range : T_Stream_Range
 Stream_Pick : T_Stream_Pick
 Stream_Flip : T_Stream_Flip
def Stream_Odd_ (g : C_Stream_Odd) (a1 : G_Stream) (a2 a3 : Int) {R : Type} (k0 : Int → G_Stream → Option R) : Option R :=
 (g.Stream_Flip a1 12 (fun r4 r5 => (bif r4 then (g.Stream_Pick r5 [(w64 (a2 - 1)), (w64 (a3 + 1)), a2, a3, (-1099511627776), 1099511627776] (fun r6 r7 => k0 r6 r7)) else (g.Stream_Range r5 a2 a3 (fun r8 r9 => k0 r8 r9)))))
noncomputable def I_Stream_Odd [Fuel] : C_Stream_Odd := ⟨NN, @Stream_Range _, @Stream_Pick _, @Stream_Flip _⟩
noncomputable def Stream_Odd [Fuel] : T_Stream_Odd := @Stream_Odd_ I_Stream_Odd
def SS_Stream_Odd (g : T_Stream_Odd) : Spec A := fun args => match args with | [.box [.d (.sl 3 a1), .d (.int .i64 a2)], .d (.int .i64 a3), .d (.int .i64 a4)] => fun k => g ⟨a1, a2⟩ a3 a4 (fun z0 z1 => k (.d (.int .i64 z0)) [.box [.d (.sl 3 z1.f_L), .d (.int .i64 z1.f_at)], .undef, .undef]) | _ => fun _ => none
noncomputable def code_72 : Code := (Tryz.f72.body).getD .skip
noncomputable def E_Stream_Odd (g : C_Stream_Odd) : Env A := mkE [(8, SS_Stream_Range g.Stream_Range), (44, SS_Stream_Pick g.Stream_Pick), (71, SS_Stream_Flip g.Stream_Flip)] [(16, [1])] [] [] [] [] [] [] [] [0]
theorem sm_Stream_Odd (g : C_Stream_Odd) : Same (SS_Stream_Odd (@Stream_Odd_ g)) (abody (E_Stream_Odd g) Tryz.f72 code_72 2 [0] [.asis] g.N) := by intro args; unfold SS_Stream_Odd; split; exact .inr fun R k => (by kernel_rfl); exact .inl fun R k => rfl
theorem ok_Stream_Odd [Fuel] : Ok 72 (SS_Stream_Odd (@Stream_Odd _)) := okF_of std (.cons ok_Stream_Range (.cons ok_Stream_Pick (.cons ok_Stream_Flip .nil))) ⟨rfl, rfl, by kernel_rfl, rfl, rfl, rfl⟩ (sm_Stream_Odd I_Stream_Odd) (cuts0 (fun _ => rfl) (by kernel_rfl)) Tryz.func72 (by kernel_rfl) (by kernel_rfl)
abbrev T_cmp_isNaN__int : Type 1 := Int → {R : Type} → (Bool → Option R) → Option R
def cmp_isNaN__int_ (g : Nat) (a1 : Int) {R : Type} (k0 : Bool → Option R) : Option R :=
 k0 (a1 != a1)
noncomputable def cmp_isNaN__int [Fuel] : T_cmp_isNaN__int := @cmp_isNaN__int_ NN
def SS_cmp_isNaN__int (g : T_cmp_isNaN__int) : Spec A := fun args => match args with | [.d (.int .i64 a1)] => fun k => g a1 (fun z0 => k (.d (.bool z0)) [.undef]) | _ => fun _ => none
noncomputable def code_213 : Code := (Tryz.f213.body).getD .skip
noncomputable def E_cmp_isNaN__int (g : Nat) : Env A := mkE [] [] [] [] [] [] [] [] [] []
theorem sm_cmp_isNaN__int (g : Nat) : Same (SS_cmp_isNaN__int (@cmp_isNaN__int_ g)) (abody (E_cmp_isNaN__int g) Tryz.f213 code_213 0 [] [.asis] g) := by intro args; unfold SS_cmp_isNaN__int; split; exact .inr fun R k => (by kernel_rfl); exact .inl fun R k => rfl
theorem ok_cmp_isNaN__int [Fuel] : Ok 213 (SS_cmp_isNaN__int (@cmp_isNaN__int _)) := okF_of std .nil ⟨rfl, rfl, by kernel_rfl, rfl, rfl, rfl⟩ (sm_cmp_isNaN__int NN) (cuts0 (fun _ => rfl) (by kernel_rfl)) Tryz.func213 (by kernel_rfl) (by kernel_rfl)
abbrev T_cmp_Compare__int : Type 1 := Int → Int → {R : Type} → (Int → Option R) → Option R
structure C_cmp_Compare__int where
 N : Nat
 cmp_isNaN__int : T_cmp_isNaN__int
def cmp_Compare__int_ (g : C_cmp_Compare__int) (a1 a2 : Int) {R : Type} (k0 : Int → Option R) : Option R :=
 (g.cmp_isNaN__int a1 (fun r3 => (g.cmp_isNaN__int a2 (fun r4 => (bif r3 then (bif r4 then k0 0 else k0 (-1)) else (bif r4 then k0 1 else (bif (decide (a1 < a2)) then k0 (-1) else (bif (decide (a1 > a2)) then k0 1 else k0 0))))))))
noncomputable def I_cmp_Compare__int [Fuel] : C_cmp_Compare__int := ⟨NN, @cmp_isNaN__int _⟩
noncomputable def cmp_Compare__int [Fuel] : T_cmp_Compare__int := @cmp_Compare__int_ I_cmp_Compare__int
def SS_cmp_Compare__int (g : T_cmp_Compare__int) : Spec A := fun args => match args with | [.d (.int .i64 a1), .d (.int .i64 a2)] => fun k => g a1 a2 (fun z0 => k (.d (.int .i64 z0)) [.undef, .undef]) | _ => fun _ => none
noncomputable def code_169 : Code := (Tryz.f169.body).getD .skip
noncomputable def E_cmp_Compare__int (g : C_cmp_Compare__int) : Env A := mkE [(213, SS_cmp_isNaN__int g.cmp_isNaN__int)] [] [] [] [] [] [] [] [] []
theorem sm_cmp_Compare__int (g : C_cmp_Compare__int) : Same (SS_cmp_Compare__int (@cmp_Compare__int_ g)) (abody (E_cmp_Compare__int g) Tryz.f169 code_169 0 [] [.asis] g.N) := by intro args; unfold SS_cmp_Compare__int; split; exact .inr fun R k => (by kernel_rfl); exact .inl fun R k => rfl
theorem ok_cmp_Compare__int [Fuel] : Ok 169 (SS_cmp_Compare__int (@cmp_Compare__int _)) := okF_of std (.cons ok_cmp_isNaN__int .nil) ⟨rfl, rfl, by kernel_rfl, rfl, rfl, rfl⟩ (sm_cmp_Compare__int I_cmp_Compare__int) (cuts0 (fun _ => rfl) (by kernel_rfl)) Tryz.func169 (by kernel_rfl) (by kernel_rfl)
abbrev T_slices_Compare__int : Type 1 := List Int → List Int → {R : Type} → (Int → Option R) → Option R
structure C_slices_Compare__int where
 N : Nat
 cmp_Compare__int : T_cmp_Compare__int
def slices_Compare__int_L2 (g : C_slices_Compare__int) : Nat → List Int → List Int → List Int → Int → Int → {R : Type} → (List Int → List Int → Int → Option R) → (List Int → List Int → Option R) → Option R
 | 0, _, _, _, _, _, _, _, _ => none
 | n + 1, v3, v4, v5, v6, v7, _, e0, e1 => (bif (decide (v7 < v6)) then (get_ v5 v7 fun x11 => (bif (decide (v7 ≥ (v4.length : Int))) then e0 v3 v4 1 else (get_ v4 v7 fun x12 => (g.cmp_Compare__int x11 x12 (fun r13 => (bif (r13 != 0) then e0 v3 v4 r13 else slices_Compare__int_L2 g n v3 v4 v5 v6 (w64 (v7 + 1)) e0 e1)))))) else e1 v3 v4)
def slices_Compare__int_ (g : C_slices_Compare__int) (a1 a2 : List Int) {R : Type} (k0 : Int → Option R) : Option R :=
 (slices_Compare__int_L2 g g.N a1 a2 a1 (a1.length : Int) 0 (fun e14 e15 e16 => k0 e16) (fun e17 e18 => (bif (decide ((e17.length : Int) < (e18.length : Int))) then k0 (-1) else k0 0)))
noncomputable def I_slices_Compare__int [Fuel] : C_slices_Compare__int := ⟨NN, @cmp_Compare__int _⟩
noncomputable def slices_Compare__int [Fuel] : T_slices_Compare__int := @slices_Compare__int_ I_slices_Compare__int
def SS_slices_Compare__int (g : T_slices_Compare__int) : Spec A := fun args => match args with | [.d (.sl 3 a1), .d (.sl 3 a2)] => fun k => g a1 a2 (fun z0 => k (.d (.int .i64 z0)) [.undef, .undef]) | _ => fun _ => none
def sh_slices_Compare__int_L2 : SSt := mkSh 36 0 [(0, .sl 3), (1, .sl 3), (9, .sl 3), (10, .int .i64), (11, .int .i64)] []
def LP_slices_Compare__int_L2 (g : C_slices_Compare__int) (n : Nat) : LPT A := fun ps => match ps with | [.d (.sl 3 p1), .d (.sl 3 p2), .d (.sl 3 p3), .d (.int .i64 p4), .d (.int .i64 p5)] => fun K => slices_Compare__int_L2 g n p1 p2 p3 p4 p5 (fun z0 z1 z2 => K .ret (mkSt 36 0 [(0, .d (.sl 3 z0)), (1, .d (.sl 3 z1)), (4, .d (.int .i64 z2))] [])) (fun z0 z1 => K (.exit 0) (mkSt 36 0 [(0, .d (.sl 3 z0)), (1, .d (.sl 3 z1))] [])) | _ => fun _ => none
noncomputable def code_148 : Code := (Tryz.f148.body).getD .skip
noncomputable def E_slices_Compare__int (g : C_slices_Compare__int) : Env A := mkE [(169, SS_cmp_Compare__int g.cmp_Compare__int)] [] [(2, ⟨[0, 1, 9, 10, 11], [], [], [], [], [], []⟩)] [(2, ⟨[0, 1, 4], [], [], [], [], [], []⟩)] [(2, pieceOf sh_slices_Compare__int_L2 (LP_slices_Compare__int_L2 g g.N))] [] [] [] [] []
theorem ct_slices_Compare__int [Fuel] : NatTab (E_slices_Compare__int I_slices_Compare__int).C := ct_of (P := Tryz.prog) (T := T) (.cons ok_cmp_Compare__int .nil) (by kernel_rfl)
noncomputable def cb_slices_Compare__int_L2 : Code := sub [1, 0, 1, 0, 0] code_148
theorem s_slices_Compare__int_L2 (g : C_slices_Compare__int) (n : Nat) : StepOk (E_slices_Compare__int g) g.N cb_slices_Compare__int_L2 sh_slices_Compare__int_L2 (LP_slices_Compare__int_L2 g) n := by intro ps; unfold LP_slices_Compare__int_L2; split; exact .inr fun R K => (by kernel_rfl); exact .inl fun R K => rfl
theorem lf_slices_Compare__int_L2 [Fuel] : LoopFine (E_slices_Compare__int I_slices_Compare__int) NN cb_slices_Compare__int_L2 := fine_loop sh_slices_Compare__int_L2 (LP_slices_Compare__int_L2 I_slices_Compare__int) (by kernel_rfl) ct_slices_Compare__int (cuts0 (fun _ => rfl) (by kernel_rfl)) (fun ps R K => by unfold LP_slices_Compare__int_L2; split <;> (try unfold slices_Compare__int_L2) <;> rfl) (s_slices_Compare__int_L2 I_slices_Compare__int)
theorem sm_slices_Compare__int (g : C_slices_Compare__int) : Same (SS_slices_Compare__int (@slices_Compare__int_ g)) (abody (E_slices_Compare__int g) Tryz.f148 code_148 0 [] [.asis] g.N) := by intro args; unfold SS_slices_Compare__int; split; exact .inr fun R k => (by kernel_rfl); exact .inl fun R k => rfl
theorem ok_slices_Compare__int [Fuel] : Ok 148 (SS_slices_Compare__int (@slices_Compare__int _)) := okF_of std (.cons ok_cmp_Compare__int .nil) ⟨rfl, rfl, by kernel_rfl, rfl, rfl, rfl⟩ (sm_slices_Compare__int I_slices_Compare__int) (cutsL (fun _ => rfl) (.cons lf_slices_Compare__int_L2 .nil) (by kernel_rfl)) Tryz.func148 (by kernel_rfl) (by kernel_rfl)
abbrev T_cmp_isNaN__string : Type 1 := List UInt8 → {R : Type} → (Bool → Option R) → Option R
def cmp_isNaN__string_ (g : Nat) (a1 : List UInt8) {R : Type} (k0 : Bool → Option R) : Option R :=
 k0 (!(a1 == a1))
noncomputable def cmp_isNaN__string [Fuel] : T_cmp_isNaN__string := @cmp_isNaN__string_ NN
def SS_cmp_isNaN__string (g : T_cmp_isNaN__string) : Spec A := fun args => match args with | [.d (.str a1)] => fun k => g a1 (fun z0 => k (.d (.bool z0)) [.undef]) | _ => fun _ => none
noncomputable def code_250 : Code := (Tryz.f250.body).getD .skip
noncomputable def E_cmp_isNaN__string (g : Nat) : Env A := mkE [] [] [] [] [] [] [] [] [] []
theorem sm_cmp_isNaN__string (g : Nat) : Same (SS_cmp_isNaN__string (@cmp_isNaN__string_ g)) (abody (E_cmp_isNaN__string g) Tryz.f250 code_250 0 [] [.asis] g) := by intro args; unfold SS_cmp_isNaN__string; split; exact .inr fun R k => (by kernel_rfl); exact .inl fun R k => rfl
theorem ok_cmp_isNaN__string [Fuel] : Ok 250 (SS_cmp_isNaN__string (@cmp_isNaN__string _)) := okF_of std .nil ⟨rfl, rfl, by kernel_rfl, rfl, rfl, rfl⟩ (sm_cmp_isNaN__string NN) (cuts0 (fun _ => rfl) (by kernel_rfl)) Tryz.func250 (by kernel_rfl) (by kernel_rfl)
abbrev T_cmp_Compare__string : Type 1 := List UInt8 → List UInt8 → {R : Type} → (Int → Option R) → Option R
structure C_cmp_Compare__string where
 N : Nat
 cmp_isNaN__string : T_cmp_isNaN__string
def cmp_Compare__string_ (g : C_cmp_Compare__string) (a1 a2 : List UInt8) {R : Type} (k0 : Int → Option R) : Option R :=
 (g.cmp_isNaN__string a1 (fun r3 => (g.cmp_isNaN__string a2 (fun r4 => (bif r3 then (bif r4 then k0 0 else k0 (-1)) else (bif r4 then k0 1 else (bif (Op.bytesLess a1 a2) then k0 (-1) else (bif (!(Op.bytesLess a1 a2 || a1 == a2)) then k0 1 else k0 0))))))))
noncomputable def I_cmp_Compare__string [Fuel] : C_cmp_Compare__string := ⟨NN, @cmp_isNaN__string _⟩
noncomputable def cmp_Compare__string [Fuel] : T_cmp_Compare__string := @cmp_Compare__string_ I_cmp_Compare__string
def SS_cmp_Compare__string (g : T_cmp_Compare__string) : Spec A := fun args => match args with | [.d (.str a1), .d (.str a2)] => fun k => g a1 a2 (fun z0 => k (.d (.int .i64 z0)) [.undef, .undef]) | _ => fun _ => none
noncomputable def code_194 : Code := (Tryz.f194.body).getD .skip
noncomputable def E_cmp_Compare__string (g : C_cmp_Compare__string) : Env A := mkE [(250, SS_cmp_isNaN__string g.cmp_isNaN__string)] [] [] [] [] [] [] [] [] []
theorem sm_cmp_Compare__string (g : C_cmp_Compare__string) : Same (SS_cmp_Compare__string (@cmp_Compare__string_ g)) (abody (E_cmp_Compare__string g) Tryz.f194 code_194 0 [] [.asis] g.N) := by intro args; unfold SS_cmp_Compare__string; split; exact .inr fun R k => (by kernel_rfl); exact .inl fun R k => rfl
theorem ok_cmp_Compare__string [Fuel] : Ok 194 (SS_cmp_Compare__string (@cmp_Compare__string _)) := okF_of std (.cons ok_cmp_isNaN__string .nil) ⟨rfl, rfl, by kernel_rfl, rfl, rfl, rfl⟩ (sm_cmp_Compare__string I_cmp_Compare__string) (cuts0 (fun _ => rfl) (by kernel_rfl)) Tryz.func194 (by kernel_rfl) (by kernel_rfl)
abbrev T_slices_Compare__string : Type 1 := List (List UInt8) → List (List UInt8) → {R : Type} → (Int → Option R) → Option R
structure C_slices_Compare__string where
 N : Nat
 cmp_Compare__string : T_cmp_Compare__string
def slices_Compare__string_L2 (g : C_slices_Compare__string) : Nat → List (List UInt8) → List (List UInt8) → List (List UInt8) → Int → Int → {R : Type} → (List (List UInt8) → List (List UInt8) → Int → Option R) → (List (List UInt8) → List (List UInt8) → Option R) → Option R
 | 0, _, _, _, _, _, _, _, _ => none
 | n + 1, v3, v4, v5, v6, v7, _, e0, e1 => (bif (decide (v7 < v6)) then (get_ v5 v7 fun x11 => (bif (decide (v7 ≥ (v4.length : Int))) then e0 v3 v4 1 else (get_ v4 v7 fun x12 => (g.cmp_Compare__string x11 x12 (fun r13 => (bif (r13 != 0) then e0 v3 v4 r13 else slices_Compare__string_L2 g n v3 v4 v5 v6 (w64 (v7 + 1)) e0 e1)))))) else e1 v3 v4)
def slices_Compare__string_ (g : C_slices_Compare__string) (a1 a2 : List (List UInt8)) {R : Type} (k0 : Int → Option R) : Option R :=
 (slices_Compare__string_L2 g g.N a1 a2 a1 (a1.length : Int) 0 (fun e14 e15 e16 => k0 e16) (fun e17 e18 => (bif (decide ((e17.length : Int) < (e18.length : Int))) then k0 (-1) else k0 0)))
noncomputable def I_slices_Compare__string [Fuel] : C_slices_Compare__string := ⟨NN, @cmp_Compare__string _⟩
noncomputable def slices_Compare__string [Fuel] : T_slices_Compare__string := @slices_Compare__string_ I_slices_Compare__string
def SS_slices_Compare__string (g : T_slices_Compare__string) : Spec A := fun args => match args with | [.d (.sl 9 a1), .d (.sl 9 a2)] => fun k => g a1 a2 (fun z0 => k (.d (.int .i64 z0)) [.undef, .undef]) | _ => fun _ => none
def sh_slices_Compare__string_L2 : SSt := mkSh 36 0 [(0, .sl 9), (1, .sl 9), (9, .sl 9), (10, .int .i64), (11, .int .i64)] []
def LP_slices_Compare__string_L2 (g : C_slices_Compare__string) (n : Nat) : LPT A := fun ps => match ps with | [.d (.sl 9 p1), .d (.sl 9 p2), .d (.sl 9 p3), .d (.int .i64 p4), .d (.int .i64 p5)] => fun K => slices_Compare__string_L2 g n p1 p2 p3 p4 p5 (fun z0 z1 z2 => K .ret (mkSt 36 0 [(0, .d (.sl 9 z0)), (1, .d (.sl 9 z1)), (4, .d (.int .i64 z2))] [])) (fun z0 z1 => K (.exit 0) (mkSt 36 0 [(0, .d (.sl 9 z0)), (1, .d (.sl 9 z1))] [])) | _ => fun _ => none
noncomputable def code_149 : Code := (Tryz.f149.body).getD .skip
noncomputable def E_slices_Compare__string (g : C_slices_Compare__string) : Env A := mkE [(194, SS_cmp_Compare__string g.cmp_Compare__string)] [] [(2, ⟨[0, 1, 9, 10, 11], [], [], [], [], [], []⟩)] [(2, ⟨[0, 1, 4], [], [], [], [], [], []⟩)] [(2, pieceOf sh_slices_Compare__string_L2 (LP_slices_Compare__string_L2 g g.N))] [] [] [] [] []
theorem ct_slices_Compare__string [Fuel] : NatTab (E_slices_Compare__string I_slices_Compare__string).C := ct_of (P := Tryz.prog) (T := T) (.cons ok_cmp_Compare__string .nil) (by kernel_rfl)
noncomputable def cb_slices_Compare__string_L2 : Code := sub [1, 0, 1, 0, 0] code_149
theorem s_slices_Compare__string_L2 (g : C_slices_Compare__string) (n : Nat) : StepOk (E_slices_Compare__string g) g.N cb_slices_Compare__string_L2 sh_slices_Compare__string_L2 (LP_slices_Compare__string_L2 g) n := by intro ps; unfold LP_slices_Compare__string_L2; split; exact .inr fun R K => (by kernel_rfl); exact .inl fun R K => rfl
theorem lf_slices_Compare__string_L2 [Fuel] : LoopFine (E_slices_Compare__string I_slices_Compare__string) NN cb_slices_Compare__string_L2 := fine_loop sh_slices_Compare__string_L2 (LP_slices_Compare__string_L2 I_slices_Compare__string) (by kernel_rfl) ct_slices_Compare__string (cuts0 (fun _ => rfl) (by kernel_rfl)) (fun ps R K => by unfold LP_slices_Compare__string_L2; split <;> (try unfold slices_Compare__string_L2) <;> rfl) (s_slices_Compare__string_L2 I_slices_Compare__string)
theorem sm_slices_Compare__string (g : C_slices_Compare__string) : Same (SS_slices_Compare__string (@slices_Compare__string_ g)) (abody (E_slices_Compare__string g) Tryz.f149 code_149 0 [] [.asis] g.N) := by intro args; unfold SS_slices_Compare__string; split; exact .inr fun R k => (by kernel_rfl); exact .inl fun R k => rfl
theorem ok_slices_Compare__string [Fuel] : Ok 149 (SS_slices_Compare__string (@slices_Compare__string _)) := okF_of std (.cons ok_cmp_Compare__string .nil) ⟨rfl, rfl, by kernel_rfl, rfl, rfl, rfl⟩ (sm_slices_Compare__string I_slices_Compare__string) (cutsL (fun _ => rfl) (.cons lf_slices_Compare__string_L2 .nil) (by kernel_rfl)) Tryz.func149 (by kernel_rfl) (by kernel_rfl)
abbrev T_Q_SpotOrder : Type 1 := G_Spot → G_Spot → {R : Type} → (Int → Option R) → Option R
structure C_Q_SpotOrder where
 N : Nat
 slices_Compare__int : T_slices_Compare__int
 slices_Compare__string : T_slices_Compare__string
def Q_SpotOrder_ (g : C_Q_SpotOrder) (a1 a2 : G_Spot) {R : Type} (k0 : Int → Option R) : Option R :=
 (g.slices_Compare__int [a1.f_At, a1.f_Hertz] [a2.f_At, a2.f_Hertz] (fun r3 => (bif (r3 != 0) then k0 r3 else (g.slices_Compare__string [a1.f_Call, a1.f_By] [a2.f_Call, a2.f_By] (fun r4 => k0 r4)))))
noncomputable def I_Q_SpotOrder [Fuel] : C_Q_SpotOrder := ⟨NN, @slices_Compare__int _, @slices_Compare__string _⟩
noncomputable def Q_SpotOrder [Fuel] : T_Q_SpotOrder := @Q_SpotOrder_ I_Q_SpotOrder
def SS_Q_SpotOrder (g : T_Q_SpotOrder) : Spec A := fun args => match args with | [.agg [.d (.int .i64 a1), .d (.int .i64 a2), .d (.str a3), .d (.str a4)], .agg [.d (.int .i64 a5), .d (.int .i64 a6), .d (.str a7), .d (.str a8)]] => fun k => g ⟨a1, a2, a3, a4⟩ ⟨a5, a6, a7, a8⟩ (fun z0 => k (.d (.int .i64 z0)) [.undef, .undef]) | _ => fun _ => none
noncomputable def code_95 : Code := (Tryz.f95.body).getD .skip
noncomputable def E_Q_SpotOrder (g : C_Q_SpotOrder) : Env A := mkE [(148, SS_slices_Compare__int g.slices_Compare__int), (149, SS_slices_Compare__string g.slices_Compare__string)] [(2, [0]), (3, [1]), (10, [2]), (15, [3]), (24, [4]), (29, [5])] [] [] [] [] [] [] [] []
theorem sm_Q_SpotOrder (g : C_Q_SpotOrder) : Same (SS_Q_SpotOrder (@Q_SpotOrder_ g)) (abody (E_Q_SpotOrder g) Tryz.f95 code_95 6 [] [.asis] g.N) := by intro args; unfold SS_Q_SpotOrder; split; exact .inr fun R k => (by kernel_rfl); exact .inl fun R k => rfl
theorem ok_Q_SpotOrder [Fuel] : Ok 95 (SS_Q_SpotOrder (@Q_SpotOrder _)) := okF_of std (.cons ok_slices_Compare__int (.cons ok_slices_Compare__string .nil)) ⟨rfl, rfl, by kernel_rfl, rfl, rfl, rfl⟩ (sm_Q_SpotOrder I_Q_SpotOrder) (cuts0 (fun _ => rfl) (by kernel_rfl)) Tryz.func95 (by kernel_rfl) (by kernel_rfl)
abbrev T_slices_insertionSortCmpFunc__Spot_Q_SpotOrder : Type 1 := List G_Spot → Int → Int → {R : Type} → (List G_Spot → Option R) → Option R
structure C_slices_insertionSortCmpFunc__Spot_Q_SpotOrder where
 N : Nat
 Q_SpotOrder : T_Q_SpotOrder
def slices_insertionSortCmpFunc__Spot_Q_SpotOrder_L4 (g : C_slices_insertionSortCmpFunc__Spot_Q_SpotOrder) : Nat → Int → Int → Int → Int → List G_Spot → {R : Type} → (Int → Int → Int → List G_Spot → Option R) → Option R
 | 0, _, _, _, _, _, _, _ => none
 | n + 1, v31, v32, v33, v34, v35, _, e0 => (bif (decide (v34 > v31)) then (inr v35 v34 (at_ v35 v34 fun x43 => (inr v35 (w64 (v34 - 1)) (at_ v35 (w64 (v34 - 1)) fun x44 => (g.Q_SpotOrder x43 x44 (fun r45 => (bif (decide (r45 < 0)) then (inr v35 (w64 (v34 - 1)) (at_ v35 (w64 (v34 - 1)) fun x46 => (inr v35 v34 (at_ v35 v34 fun x47 => (inr v35 v34 (at_ v35 v34 fun x48 => (inr (set_ v35 v34 x46) (w64 (v34 - 1)) (at_ (set_ v35 v34 x46) (w64 (v34 - 1)) fun x49 => slices_insertionSortCmpFunc__Spot_Q_SpotOrder_L4 g n v31 v32 v33 (w64 (v34 - 1)) (set_ (set_ v35 v34 x46) (w64 (v34 - 1)) x47) e0)))))))) else e0 v31 v32 v33 v35))))))) else e0 v31 v32 v33 v35)
def slices_insertionSortCmpFunc__Spot_Q_SpotOrder_L1 (g : C_slices_insertionSortCmpFunc__Spot_Q_SpotOrder) : Nat → Int → Int → Int → List G_Spot → {R : Type} → (List G_Spot → Option R) → Option R
 | 0, _, _, _, _, _, _ => none
 | n + 1, v4, v5, v6, v7, _, e0 => (bif (decide (v6 < v5)) then (slices_insertionSortCmpFunc__Spot_Q_SpotOrder_L4 g g.N v4 v5 v6 v6 v7 (fun e50 e51 e52 e53 => slices_insertionSortCmpFunc__Spot_Q_SpotOrder_L1 g n e50 e51 (w64 (e52 + 1)) e53 e0)) else e0 v7)
def slices_insertionSortCmpFunc__Spot_Q_SpotOrder_ (g : C_slices_insertionSortCmpFunc__Spot_Q_SpotOrder) (a1 : List G_Spot) (a2 a3 : Int) {R : Type} (k0 : List G_Spot → Option R) : Option R :=
 (slices_insertionSortCmpFunc__Spot_Q_SpotOrder_L1 g g.N a2 a3 (w64 (a2 + 1)) a1 (fun e54 => k0 e54))
noncomputable def I_slices_insertionSortCmpFunc__Spot_Q_SpotOrder [Fuel] : C_slices_insertionSortCmpFunc__Spot_Q_SpotOrder := ⟨NN, @Q_SpotOrder _⟩
noncomputable def slices_insertionSortCmpFunc__Spot_Q_SpotOrder [Fuel] : T_slices_insertionSortCmpFunc__Spot_Q_SpotOrder := @slices_insertionSortCmpFunc__Spot_Q_SpotOrder_ I_slices_insertionSortCmpFunc__Spot_Q_SpotOrder
def SS_slices_insertionSortCmpFunc__Spot_Q_SpotOrder (g : T_slices_insertionSortCmpFunc__Spot_Q_SpotOrder) : Spec A := fun args => match args with | [.arr 61 a1, .d (.int .i64 a2), .d (.int .i64 a3), .fn 95 []] => fun k => g a1 a2 a3 (fun z0 => k (.tup []) [.arr 61 z0, .undef, .undef, .fn 95 []]) | _ => fun _ => none
def sh_slices_insertionSortCmpFunc__Spot_Q_SpotOrder_L4 : SSt := mkSh 53 1 [(0, .own 61 0), (1, .int .i64), (2, .int .i64), (3, .fn 95 []), (8, .int .i64), (9, .int .i64)] [(0, .row 61)]
def LP_slices_insertionSortCmpFunc__Spot_Q_SpotOrder_L4 (g : C_slices_insertionSortCmpFunc__Spot_Q_SpotOrder) (n : Nat) : LPT A := fun ps => match ps with | [.d (.int .i64 p1), .d (.int .i64 p2), .d (.int .i64 p3), .d (.int .i64 p4), .d (.sl 61 p5)] => fun K => slices_insertionSortCmpFunc__Spot_Q_SpotOrder_L4 g n p1 p2 p3 p4 p5 (fun z0 z1 z2 z3 => K (.exit 2) (mkSt 53 1 [(0, .own 61 0), (1, .d (.int .i64 z0)), (2, .d (.int .i64 z1)), (3, .fn 95 []), (8, .d (.int .i64 z2))] [(0, some (.row 61 z3))])) | _ => fun _ => none
def sh_slices_insertionSortCmpFunc__Spot_Q_SpotOrder_L1 : SSt := mkSh 53 1 [(0, .own 61 0), (1, .int .i64), (2, .int .i64), (3, .fn 95 []), (8, .int .i64)] [(0, .row 61)]
def LP_slices_insertionSortCmpFunc__Spot_Q_SpotOrder_L1 (g : C_slices_insertionSortCmpFunc__Spot_Q_SpotOrder) (n : Nat) : LPT A := fun ps => match ps with | [.d (.int .i64 p1), .d (.int .i64 p2), .d (.int .i64 p3), .d (.sl 61 p4)] => fun K => slices_insertionSortCmpFunc__Spot_Q_SpotOrder_L1 g n p1 p2 p3 p4 (fun z0 => K (.exit 0) (mkSt 53 1 [(0, .own 61 0), (3, .fn 95 [])] [(0, some (.row 61 z0))])) | _ => fun _ => none
noncomputable def code_192 : Code := (Tryz.f192.body).getD .skip
noncomputable def E_slices_insertionSortCmpFunc__Spot_Q_SpotOrder (g : C_slices_insertionSortCmpFunc__Spot_Q_SpotOrder) : Env A := mkE [(95, SS_Q_SpotOrder g.Q_SpotOrder)] [] [(4, ⟨[0, 1, 2, 3, 8, 9], [], [0], [], [], [], []⟩), (1, ⟨[0, 1, 2, 3, 8], [], [0], [], [], [], []⟩)] [(4, ⟨[0, 1, 2, 3, 8], [], [0], [], [], [], []⟩), (1, ⟨[0, 3], [], [0], [], [], [], []⟩)] [(4, pieceOf sh_slices_insertionSortCmpFunc__Spot_Q_SpotOrder_L4 (LP_slices_insertionSortCmpFunc__Spot_Q_SpotOrder_L4 g g.N)), (1, pieceOf sh_slices_insertionSortCmpFunc__Spot_Q_SpotOrder_L1 (LP_slices_insertionSortCmpFunc__Spot_Q_SpotOrder_L1 g g.N))] [] [] [] [] [0, 3]
theorem ct_slices_insertionSortCmpFunc__Spot_Q_SpotOrder [Fuel] : NatTab (E_slices_insertionSortCmpFunc__Spot_Q_SpotOrder I_slices_insertionSortCmpFunc__Spot_Q_SpotOrder).C := ct_of (P := Tryz.prog) (T := T) (.cons ok_Q_SpotOrder .nil) (by kernel_rfl)
noncomputable def cb_slices_insertionSortCmpFunc__Spot_Q_SpotOrder_L4 : Code := sub [1, 0, 0, 1, 0, 0, 1, 0, 0] code_192
theorem s_slices_insertionSortCmpFunc__Spot_Q_SpotOrder_L4 (g : C_slices_insertionSortCmpFunc__Spot_Q_SpotOrder) (n : Nat) : StepOk (E_slices_insertionSortCmpFunc__Spot_Q_SpotOrder g) g.N cb_slices_insertionSortCmpFunc__Spot_Q_SpotOrder_L4 sh_slices_insertionSortCmpFunc__Spot_Q_SpotOrder_L4 (LP_slices_insertionSortCmpFunc__Spot_Q_SpotOrder_L4 g) n := by intro ps; unfold LP_slices_insertionSortCmpFunc__Spot_Q_SpotOrder_L4; split; exact .inr fun R K => (by kernel_rfl); exact .inl fun R K => rfl
theorem lf_slices_insertionSortCmpFunc__Spot_Q_SpotOrder_L4 [Fuel] : LoopFine (E_slices_insertionSortCmpFunc__Spot_Q_SpotOrder I_slices_insertionSortCmpFunc__Spot_Q_SpotOrder) NN cb_slices_insertionSortCmpFunc__Spot_Q_SpotOrder_L4 := fine_loop sh_slices_insertionSortCmpFunc__Spot_Q_SpotOrder_L4 (LP_slices_insertionSortCmpFunc__Spot_Q_SpotOrder_L4 I_slices_insertionSortCmpFunc__Spot_Q_SpotOrder) (by kernel_rfl) ct_slices_insertionSortCmpFunc__Spot_Q_SpotOrder (cuts0 (fun _ => rfl) (by kernel_rfl)) (fun ps R K => by unfold LP_slices_insertionSortCmpFunc__Spot_Q_SpotOrder_L4; split <;> (try unfold slices_insertionSortCmpFunc__Spot_Q_SpotOrder_L4) <;> rfl) (s_slices_insertionSortCmpFunc__Spot_Q_SpotOrder_L4 I_slices_insertionSortCmpFunc__Spot_Q_SpotOrder)
noncomputable def cb_slices_insertionSortCmpFunc__Spot_Q_SpotOrder_L1 : Code := sub [1, 0, 0] code_192
theorem s_slices_insertionSortCmpFunc__Spot_Q_SpotOrder_L1 (g : C_slices_insertionSortCmpFunc__Spot_Q_SpotOrder) (n : Nat) : StepOk (E_slices_insertionSortCmpFunc__Spot_Q_SpotOrder g) g.N cb_slices_insertionSortCmpFunc__Spot_Q_SpotOrder_L1 sh_slices_insertionSortCmpFunc__Spot_Q_SpotOrder_L1 (LP_slices_insertionSortCmpFunc__Spot_Q_SpotOrder_L1 g) n := by intro ps; unfold LP_slices_insertionSortCmpFunc__Spot_Q_SpotOrder_L1; split; exact .inr fun R K => (by kernel_rfl); exact .inl fun R K => rfl
theorem lf_slices_insertionSortCmpFunc__Spot_Q_SpotOrder_L1 [Fuel] : LoopFine (E_slices_insertionSortCmpFunc__Spot_Q_SpotOrder I_slices_insertionSortCmpFunc__Spot_Q_SpotOrder) NN cb_slices_insertionSortCmpFunc__Spot_Q_SpotOrder_L1 := fine_loop sh_slices_insertionSortCmpFunc__Spot_Q_SpotOrder_L1 (LP_slices_insertionSortCmpFunc__Spot_Q_SpotOrder_L1 I_slices_insertionSortCmpFunc__Spot_Q_SpotOrder) (by kernel_rfl) ct_slices_insertionSortCmpFunc__Spot_Q_SpotOrder (cutsL (fun _ => rfl) (.cons lf_slices_insertionSortCmpFunc__Spot_Q_SpotOrder_L4 .nil) (by kernel_rfl)) (fun ps R K => by unfold LP_slices_insertionSortCmpFunc__Spot_Q_SpotOrder_L1; split <;> (try unfold slices_insertionSortCmpFunc__Spot_Q_SpotOrder_L1) <;> rfl) (s_slices_insertionSortCmpFunc__Spot_Q_SpotOrder_L1 I_slices_insertionSortCmpFunc__Spot_Q_SpotOrder)
theorem sm_slices_insertionSortCmpFunc__Spot_Q_SpotOrder (g : C_slices_insertionSortCmpFunc__Spot_Q_SpotOrder) : Same (SS_slices_insertionSortCmpFunc__Spot_Q_SpotOrder (@slices_insertionSortCmpFunc__Spot_Q_SpotOrder_ g)) (abody (E_slices_insertionSortCmpFunc__Spot_Q_SpotOrder g) Tryz.f192 code_192 1 [0] [] g.N) := by intro args; unfold SS_slices_insertionSortCmpFunc__Spot_Q_SpotOrder; split; exact .inr fun R k => (by kernel_rfl); exact .inl fun R k => rfl
theorem ok_slices_insertionSortCmpFunc__Spot_Q_SpotOrder [Fuel] : Ok 192 (SS_slices_insertionSortCmpFunc__Spot_Q_SpotOrder (@slices_insertionSortCmpFunc__Spot_Q_SpotOrder _)) := okF_of std (.cons ok_Q_SpotOrder .nil) ⟨rfl, rfl, by kernel_rfl, rfl, rfl, rfl⟩ (sm_slices_insertionSortCmpFunc__Spot_Q_SpotOrder I_slices_insertionSortCmpFunc__Spot_Q_SpotOrder) (cutsL (fun _ => rfl) (.cons lf_slices_insertionSortCmpFunc__Spot_Q_SpotOrder_L4 (.cons lf_slices_insertionSortCmpFunc__Spot_Q_SpotOrder_L1 .nil)) (by kernel_rfl)) Tryz.func192 (by kernel_rfl) (by kernel_rfl)
end Go.Am
